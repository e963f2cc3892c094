import PyProof.Rows.All
import Wide.All
import OpenK.AllK
import Wide.FinOn
import HandS.ForMost
import HandS.ForExc
import HandS.IsInst
import HandS.ExcIs
import HandS.Conv
import HandS.SuiteRaise
import HandS.NoneIn
import HandS.More
import HandS.Deep
import HandS.Zip
import HandS.CallSlots
import HandS.Style
import HandS.TryMany
import HandS.Walk
import KE.SortData
import HandS.SortRule
import HandS.SetFor
import KE.DataFind
import HandS.Codes
import HandS.Steps
import HandS.HotCalls
import HandS.Strs
import PyProof.Rows.StrJoinRep
import PySem.Challenge.RW_riverdue_k27_texts_refused
set_option Elab.async false
set_option linter.all false
set_option maxRecDepth 100000
set_option maxHeartbeats 4000000
namespace Rv
open PySem L2
/-! ### heaps -/
/-- all that stood stands -/
structure Ext (H H' : Hp) : Prop where
  g : ∀ a o, H a = some o → H' a = some o
/-- the same, over many steps from an entry heap -/
structure Ac (H H' : Hp) : Prop where
  g : ∀ a o, H a = some o → H' a = some o
/-- all but S stands -/
structure But (S : List Addr) (H H' : Hp) : Prop where
  g : ∀ a o, H a = some o → a ∉ S → H' a = some o
theorem Ext.hl {H H' : Hp} {a : Addr} {o : HO} (e : Ext H H') (h : H a = some o) : H' a = some o := e.g a o h
theorem Ac.hl {H H' : Hp} {a : Addr} {o : HO} (e : Ac H H') (h : H a = some o) : H' a = some o := e.g a o h
theorem But.hl {S : List Addr} {H H' : Hp} {a : Addr} {o : HO} (e : But S H H') (h : H a = some o) (n : a ∉ S) : H' a = some o := e.g a o h n
theorem Ext.refl (H : Hp) : Ext H H := ⟨fun _ _ h => h⟩
theorem Ext.trans {H H1 H2 : Hp} (a : Ext H H1) (b : Ext H1 H2) : Ext H H2 := ⟨fun x o h => b.g x o (a.g x o h)⟩
theorem Ext.ac {H H' : Hp} (e : Ext H H') : Ac H H' := ⟨e.g⟩
theorem Ac.ext {H H' : Hp} (e : Ac H H') : Ext H H' := ⟨e.g⟩
theorem Ac.refl (H : Hp) : Ac H H := ⟨fun _ _ h => h⟩
theorem Ac.step {H H1 H2 : Hp} (a : Ac H H1) (b : Ext H1 H2) : Ac H H2 := ⟨fun x o h => b.g x o (a.g x o h)⟩
theorem Ac.trans {H H1 H2 : Hp} (a : Ac H H1) (b : Ac H1 H2) : Ac H H2 := ⟨fun x o h => b.g x o (a.g x o h)⟩
/-- none of S stood -/
def Frs (H : Hp) (S : List Addr) : Prop := ∀ a ∈ S, H a = none
theorem frs_nil {H : Hp} : Frs H [] := fun a h => by cases h
theorem frs_cons {H : Hp} {a : Addr} {S : List Addr} (h : H a = none) (t : Frs H S) : Frs H (a :: S) := fun b hb => by
  rcases List.mem_cons.mp hb with e | hb
  · rw [e]; exact h
  · exact t b hb
theorem Ac.but {H H1 H2 : Hp} {S : List Addr} (a : Ac H H1) (b : But S H1 H2) (f : Frs H S) : Ac H H2 := ⟨fun x o h => b.g x o (a.g x o h) (fun hx => by
  rw [f x hx] at h
  cases h)⟩
theorem Ac.step' {H H1 H2 : Hp} (b : Ext H1 H2) (a : Ac H H1) : Ac H H2 := a.step b
theorem Ac.but' {H H1 H2 : Hp} {S : List Addr} (b : But S H1 H2) (a : Ac H H1) (f : Frs H S) : Ac H H2 := a.but b f
theorem Ext.free {H H' : Hp} {a : Addr} (e : Ext H H') (h : H' a = none) : H a = none := by
  cases q : H a with
  | none => rfl
  | some o => rw [e.g a o q] at h; cases h
theorem Ac.free {H H' : Hp} {a : Addr} (e : Ac H H') (h : H' a = none) : H a = none := e.ext.free h
theorem free2 {H H' : Hp} {a : Addr} (h : H' a = none) (e : Ac H H') : H a = none := e.free h
theorem ext_new {H : Hp} {p : Addr} {o : HO} (h : H p = none) : Ext H (upd H p o) := ⟨fun a u e => by
  rw [upd_ne (ne_of_none e h)]
  exact e⟩
theorem but_upd {H : Hp} {p : Addr} {o : HO} : But [p] H (upd H p o) := ⟨fun a u e n => by
  rw [upd_ne (fun z => n (by rw [z]; exact List.mem_cons_self))]
  exact e⟩
theorem Ext.but {H H' : Hp} {S : List Addr} (e : Ext H H') : But S H H' := ⟨fun a o h _ => e.g a o h⟩
theorem But.trans {S : List Addr} {H H1 H2 : Hp} (a : But S H H1) (b : But S H1 H2) : But S H H2 := ⟨fun x o h n => b.g x o (a.g x o h n) n⟩
theorem But.step {S : List Addr} {H H1 H2 : Hp} (a : But S H H1) (b : Ext H1 H2) : But S H H2 := ⟨fun x o h n => b.g x o (a.g x o h n)⟩
theorem But.mono {S S' : List Addr} {H H' : Hp} (a : But S H H') (h : ∀ x ∈ S, x ∈ S') : But S' H H' := ⟨fun x o e n => a.g x o e (fun z => n (h x z))⟩
theorem But.frs {S S' : List Addr} {H H1 H2 : Hp} (a : But S H H1) (b : But S' H1 H2) (f : Frs H S') : But S H H2 := ⟨fun x o h n => b.g x o (a.g x o h n) (fun z => by
  rw [f x z] at h
  cases h)⟩
theorem But.ext {H H' : Hp} (e : But [] H H') : Ext H H' := ⟨fun a o h => e.g a o h (fun z => by cases z)⟩
theorem nin_nil {a : Addr} : a ∉ ([] : List Addr) := fun h => by cases h
theorem nin_cons {a b : Addr} {S : List Addr} (h : a ≠ b) (t : a ∉ S) : a ∉ b :: S := fun z => by
  rcases List.mem_cons.mp z with e | z
  · exact h e
  · exact t z
section
variable {K : PySem.W.Frag} {H H' : Hp} {a : Addr} {xs : List V}
theorem Ext.rd {u : HO} (e : Ext H H') (h : Rd H a u) : Rd H' a u := by
  rcases h with h | ⟨o, h⟩
  · exact .inl (e.g _ _ h)
  · exact .inr ⟨o, e.g _ _ h⟩
theorem Ext.sq (e : Ext H H') (h : SqL K H a xs) : SqL K H' a xs := by
  rcases h with h | h
  · exact .inl (e.rd h)
  · exact .inr h
theorem Ext.st (e : Ext H H') (h : SqT K H a xs) : SqT K H' a xs := by
  rcases h with h | h
  · exact .inl (e.rd h)
  · exact .inr h
theorem Ac.sq (e : Ac H H') (h : SqL K H a xs) : SqL K H' a xs := e.ext.sq h
theorem Ac.st (e : Ac H H') (h : SqT K H a xs) : SqT K H' a xs := e.ext.st h
theorem But.rd {S : List Addr} {u : HO} (e : But S H H') (h : Rd H a u) (n : a ∉ S) : Rd H' a u := by
  rcases h with h | ⟨o, h⟩
  · exact .inl (e.g _ _ h n)
  · exact .inr ⟨o, e.g _ _ h n⟩
theorem But.sq {S : List Addr} (e : But S H H') (h : SqL K H a xs) (n : a ∉ S) : SqL K H' a xs := by
  rcases h with h | h
  · exact .inl (e.rd h n)
  · exact .inr h
theorem But.st {S : List Addr} (e : But S H H') (h : SqT K H a xs) (n : a ∉ S) : SqT K H' a xs := by
  rcases h with h | h
  · exact .inl (e.rd h n)
  · exact .inr h
end
theorem ne_nf {H : Hp} {a b : Addr} {o : HO} (h' : H b = none) (h : H a = some o) : a ≠ b := ne_of_none h h'
theorem ne_fn {H : Hp} {a b : Addr} {o : HO} (h' : H a = none) (h : H b = some o) : a ≠ b := (ne_of_none h h').symm
theorem ne_k1 {H : Hp} {a b : Addr} {o u : HO} (h : H a = some o) (h' : H b = some u) (d : o ≠ u) : a ≠ b := ne_of h h' d
theorem ne_k2 {H : Hp} {a b : Addr} {o u : HO} (h : H b = some o) (h' : H a = some u) (d : o ≠ u) : a ≠ b := (ne_of h h' d).symm
theorem ins_ne {C C' dx dx' : Addr} {fs fs' : List (Str × V)} (h : fs.length ≠ fs'.length) : HO.ins C dx fs ≠ HO.ins C' dx' fs' := fun z => by
  injection z with z1 z2 z3
  exact h (by rw [z3])
theorem sz_le {n : Nat} (h : n ≤ 100000) : n ≤ sizeLine := Nat.le_trans h (by decide)
theorem sz_lt {n : Nat} (h : n < 100000) : n < sizeLine := Nat.lt_of_lt_of_le h (by decide)
end Rv

namespace Rv
open PySem L2
/-! ### named relations of operators, calls, methods -/
def rAddI : R2 := rI0 fun i j => .int (i + j)
def rSubI : R2 := rI0 fun i j => .int (i - j)
def rMulI : R2 := rI CMul fun i j => .int (i * j)
def rDivI : R2 := rI CDiv fun i j => .int (i / j)
def rModI : R2 := rI (fun _ j => 0 < j) fun i j => .int (i % j)
def rPowI : R2 := rI CPow fun i j => .int (i ^ j.toNat)
def rNegI : V → Hp → VK → Prop := rU fun i => .int (-i)
def rLtI : R2 := rI0 fun i j => .bl (decide (i < j))
def rLeI : R2 := rI0 fun i j => .bl (decide (i ≤ j))
def rGtI : R2 := rI0 fun i j => .bl (decide (j < i))
def rGeI : R2 := rI0 fun i j => .bl (decide (j ≤ i))
def rCatS : R2 := fun x y H Q => ∃ i j, x = .str i ∧ y = .str j ∧ i.length + j.length ≤ sizeLine ∧ Q (.str (i ++ j)) H
def rIsNon : R2 := fun x y H Q => y = .non ∧ Q (.bl (decide (x = .non))) H
def rNotNon : R2 := fun x y H Q => y = .non ∧ Q (.bl (!decide (x = .non))) H
def rLenS (K : PySem.W.Frag) : List V → Hp → VK → Prop := fun xs H Q => ∃ p ys, xs = [.ref p] ∧ (SqL K H p ys ∨ SqT K H p ys) ∧ Q (.int ys.length) H
def rLenT : List V → Hp → VK → Prop := fun xs H Q => ∃ z, xs = [.str z] ∧ z.length ≤ sizeLine ∧ Q (.int z.length) H
def rLenD : List V → Hp → VK → Prop := fun xs H Q => ∃ a kvs, xs = [V.ref a] ∧ H a = some (.dK kvs) ∧ Q (.int kvs.length) H
def rListS (K : PySem.W.Frag) : List V → Hp → VK → Prop := fun xs H Q => ∃ p ys, xs = [.ref p] ∧ (SqL K H p ys ∨ SqT K H p ys) ∧ ∀ l, H l = none → Q (.ref l) (upd H l (.lst ys))
def rInt1 : List V → Hp → VK → Prop := fun xs H Q => (∃ i, xs = [.int i] ∧ Q (.int i) H) ∨ ∃ k, xs = [.bl k] ∧ Q (.int (if k then 1 else 0)) H
def rStrI : List V → Hp → VK → Prop := fun xs H Q => ∃ i, xs = [.int i] ∧ i.natAbs.log2 < 1920 ∧ Q (.str (toString i)) H
def rIntS : List V → Hp → VK → Prop := fun xs H Q => ∃ a n, xs = [.str a] ∧ PySem.intText? a = some n ∧ a.length ≤ 640 ∧ Q (.int n) H
def rMax2 : List V → Hp → VK → Prop := fun xs H Q => ∃ i j, xs = [.int i, .int j] ∧ Q (.int (if j > i then j else i)) H
def rMin2 : List V → Hp → VK → Prop := fun xs H Q => ∃ i j, xs = [.int i, .int j] ∧ Q (.int (if j < i then j else i)) H
def rDictP (K : PySem.W.Frag) : List V → Hp → VK → Prop := fun xs H Q => ∃ (a : Addr) (ps : List Addr) (kvs : List (Key × V)), xs = [.ref a] ∧ SqL K H a (ps.map V.ref) ∧ Paired (fun p kv => SqT K H p [kV kv.1, kv.2]) ps kvs ∧
    ∀ p, H p = none → Q (.ref p) (upd H p (.dK (mergeK [] kvs)))
def rInsert : V → List V → Hp → VK → Prop := fun x vs H Q => ∃ (l : Addr) (xs : List V) (i : Int) (y : V), x = .ref l ∧ vs = [.int i, y] ∧ H l = some (.lst xs) ∧ xs.length < sizeLine ∧ 0 ≤ i ∧ i < 2 ^ 63 ∧
    Q .non (upd H l (.lst (xs.take i.toNat ++ [y] ++ xs.drop i.toNat)))
def rSplit : V → List V → Hp → VK → Prop := fun x xs H Q => ∃ a b, x = .str a ∧ xs = [.str b] ∧ (b.length == 0) = false ∧ a.length + 2 ≤ sizeLine ∧ rNewStrs (Txt.split a b) H Q
def rJoin (K : PySem.W.Frag) : V → List V → Hp → VK → Prop := fun x xs H Q => ∃ a p, ∃ ys : List Str, x = .str a ∧ xs = [.ref p] ∧ (SqL K H p (ys.map V.str) ∨ SqT K H p (ys.map V.str)) ∧ (ys.map (·.length)).sum + ys.length * a.length ≤ 16777216 ∧ Q (.str (Txt.join a ys)) H
def rRepS : R2 := fun x y H Q => ∃ (z : Str) (n : Int), x = .str z ∧ y = .int n ∧ z.length ≤ 1000 ∧ 0 ≤ n ∧ n ≤ 1000 ∧ Q (.str (Txt.mul z n)) H
/-- isinstance against a built-in class -/
def rIsB (K : PySem.W.Frag) (n : String) : List V → Hp → VK → Prop := fun xs H Q => ∃ (x : V) (t : String) (b : Bool), xs = [x, .ty n] ∧ TyX K H x (.type t) ∧ kitB t n = some b ∧ Q (.bl b) H
section
variable {X : Cx}
theorem op_addI : OpR X (binaryOp .Add) rAddI := op_add
theorem op_subI : OpR X (binaryOp .Sub) rSubI := op_sub
theorem op_mulI : OpR X (binaryOp .Mult) rMulI := op_mul
theorem op_divI : OpR X (binaryOp .FloorDiv) rDivI := op_fdiv
theorem op_modI : OpR X (binaryOp .Mod) rModI := op_mod
theorem op_powI : OpR X (binaryOp .Pow) rPowI := op_pow
theorem un_negI : UnR X (unaryOp .USub) rNegI := un_neg
theorem op_ltI : OpR X (compareOp .Lt) rLtI := op_lt
theorem op_leI : OpR X (compareOp .LtE) rLeI := op_le
theorem op_gtI : OpR X (compareOp .Gt) rGtI := op_gt
theorem op_geI : OpR X (compareOp .GtE) rGeI := op_ge
theorem op_catS : OpR X (binaryOp .Add) rCatS := op_add_str
theorem op_isNon : OpR X (compareOp .Is) rIsNon := op_isN
theorem op_notNon : OpR X (compareOp .IsNot) rNotNon := op_notN
theorem c_lenS : CallR X (.builtin "len") (rLenS X.K) := call_len_seq
theorem c_lenT : CallR X (.builtin "len") rLenT := call_len_str
theorem c_lenD : CallR X (.builtin "len") rLenD := call_lenD
theorem c_list : CallR X (.type "list") (rListS X.K) := call_list_of
theorem c_int1 : CallR X (.type "int") rInt1 := call_int1
theorem c_strI : CallR X (.type "str") rStrI := call_str_int
theorem c_intS : CallR X (.type "int") rIntS := call_int_str
theorem c_max2 (hc : X.calm = true) : CallR X (.builtin "max") rMax2 := call_max2 hc
theorem c_min2 (hc : X.calm = true) : CallR X (.builtin "min") rMin2 := call_min2 hc
theorem c_dictP (hc : X.calm = true) : CallR X (.type "dict") (rDictP X.K) := call_dictP hc
theorem m_insert : MtR X "list.insert" rInsert := mt_insert
theorem m_split : MtR X "str.split" rSplit := mt_split
theorem m_join : MtR X "str.join" (rJoin X.K) := mt_join
theorem c_isB {n : String} : CallR X (.builtin "isinstance") (rIsB X.K n) := by
  intro pins s σ H xs us Q I r h
  obtain ⟨x, t, b, rfl, ty, e, q⟩ := h
  exact call_isi pins s σ H _ us Q I r ⟨x, .ty n, .type t, .type n, b, rfl, .ty n, ty, kit_ty e, q⟩
end

/-! ### continuations with names -/
def kBl (Q : Bool → Hp → Prop) : VK := fun x H' => ∃ k, x = .bl k ∧ Q k H'
def kFld (K : PySem.W.Frag) (f : Str) (Q : VK) : VK := fun x H1 => ∃ a C dx fs v, x = .ref a ∧ H1 a = some (.ins C dx fs) ∧ Cls K C ∧ NoAttr K C f ∧ fs.lookup f = some v ∧ Q v H1
def kSetF (K : PySem.W.Frag) (f : Str) (y : V) (nx : Hp → Prop) : VK := fun x H2 => ∃ a C dx fs, x = .ref a ∧ H2 a = some (.ins C dx fs) ∧ Cls K C ∧ NoAttr K C f ∧ fs.length < 1000 ∧ nx (upd H2 a (.ins C dx (putF f y fs)))
def kTup (Q : VK) : List V → Hp → Prop := fun xs H1 => xs.length ≤ sizeLine ∧ ∀ p, H1 p = none → Q (.ref p) (upd H1 p (.tup xs))
def kLst (Q : VK) : List V → Hp → Prop := fun xs H1 => xs.length ≤ sizeLine ∧ ∀ p, H1 p = none → Q (.ref p) (upd H1 p (.lst xs))
def kIf (t u : TS) (D : Ends) (σ : L2.St) : Bool → Hp → Prop := fun b H1 => if b = true then t D σ H1 else u D σ H1
def kIfE (ta tb : TE) (σ : L2.St) (Q : VK) : Bool → Hp → Prop := fun c H1 => if c = true then ta σ H1 Q else tb σ H1 Q
def kAnd (u : TT) (σ : L2.St) (Q : Bool → Hp → Prop) : Bool → Hp → Prop := fun c H1 => if c = true then u σ H1 Q else Q false H1
def kOr (u : TT) (σ : L2.St) (Q : Bool → Hp → Prop) : Bool → Hp → Prop := fun c H1 => if c = true then Q true H1 else u σ H1 Q
def kAndV (tb : TE) (σ : L2.St) (Q : VK) : VK := fun x H1 => ∃ c, x = .bl c ∧ if c = true then tb σ H1 Q else Q (.bl false) H1
def kOrV (tb : TE) (σ : L2.St) (Q : VK) : VK := fun x H1 => ∃ c, x = .bl c ∧ if c = true then Q (.bl true) H1 else tb σ H1 Q
def kNotV (Q : VK) : VK := fun x H1 => ∃ c, x = .bl c ∧ Q (.bl (!c)) H1
def kChain (r' : R2) (tc : TE) (σ : L2.St) (y : V) (Q : VK) : VK := fun z H3 => ∃ k, z = .bl k ∧ (if k = true then tc σ H3 fun w' H4 => r' y w' H4 Q else Q (.bl false) H3)
def kTy (K : PySem.W.Frag) (T : String) (R : V → Hp → Prop) : VK := fun x H1 => tyV K T x H1 ∧ R x H1
def kMeth (C : Addr) (m : Str) (σ : L2.St) (t : TA) (R : V → List V → Hp → Prop) : VK := fun x H1 => ∃ a dx fs, x = .ref a ∧ H1 a = some (.ins C dx fs) ∧ fs.lookup m = none ∧ t σ H1 fun vs H2 => R x vs H2
def kStr (R : V → Hp → Prop) : VK := fun x H1 => (∃ a, x = .str a) ∧ R x H1
def kDGet (Q : VK) (x y : V) (H2 : Hp) : Prop := ∃ a v, x = .ref a ∧ DGet H2 a y (some v) ∧ Q v H2
def kDIn (Q : VK) (y x : V) (H2 : Hp) : Prop := ∃ a o, x = .ref a ∧ DGet H2 a y o ∧ Q (.bl o.isSome) H2
def kDNotIn (Q : VK) (y x : V) (H2 : Hp) : Prop := ∃ a o, x = .ref a ∧ DGet H2 a y o ∧ Q (.bl (!o.isSome)) H2
def kDPut (nx : Hp → Prop) (v x y : V) (H3 : Hp) : Prop := ∃ a H4, x = .ref a ∧ DPut H3 a y v H4 ∧ nx H4
def kDGet2 (σ : L2.St) (ty tx : TE) (Q : VK) : VK := fun x H1 => ∃ a, x = .ref a ∧ IsD H1 a ∧ ty σ H1 fun y H2 => tx σ H2 fun z H3 => ∃ o, DGet H3 a y o ∧ Q (o.getD z) H3
def kPart (Q : Option Int → Hp → Prop) : VK := fun x H1 => ∃ i, x = .int i ∧ Q (some i) H1
/-! ### a method's call, a class's, with the wish at the slots -/
def tMethS (C : Addr) (m : Str) (sp : Sp) (W : WX) (ta : TE) (t : TA) : TE := fun σ H Q => ta σ H fun x H1 => ∃ a dx fs, x = .ref a ∧ H1 a = some (.ins C dx fs) ∧ fs.lookup m = none ∧ t σ H1 fun vs H2 => sp (x :: vs) H2 Q (WE W σ)
def tMakeS (C : Addr) (sp : Sp) (W : WX) (t : TA) : TE := fun σ H Q => t σ H fun vs H1 => ∀ x dx, H1 x = none → H1 dx = none → dx ≠ x →
  sp (.ref x :: vs) (upd (upd H1 dx (.own x)) x (.ins C dx [])) (fun v H2 => v = .non ∧ Q (.ref x) H2) (WE W σ)
def tFn (sp : Sp) (W : WX) (t : TA) : TE := tCallS sp (WE W) t
def tRaise (W : WX) (C : Addr) : TS := fun _ σ H => W (.ref C) none σ H
/-- what a def wishes of what leaves it; what nothing wishes -/
def wF (E : XK) : WX := fun cls d _ H => E cls d H
def wN : WX := fun _ _ _ _ => False
section
variable {K : PySem.W.Frag} {σ : L2.St} {H H' : Hp} {Q : VK} {QB : Bool → Hp → Prop} {D : Ends} {ta tb tc te : TE} {t u : TT} {s1 s2 : TS} {r r' : R2} {tl : TA}
theorem r_var {i : Nat} {v : V} (h : σ[i]? = some (some v)) (q : Q v H) : tVar i σ H Q := ⟨v, h, q⟩
theorem r_c {v : V} (q : Q v H) : tC v σ H Q := q
theorem r_op (h : ta σ H fun x H1 => tb σ H1 fun y H2 => r x y H2 Q) : tOp r ta tb σ H Q := h
theorem r_un {r : V → Hp → VK → Prop} (h : ta σ H fun x H1 => r x H1 Q) : tUn r ta σ H Q := h
theorem r_chain (h : ta σ H fun x H1 => tb σ H1 fun y H2 => r x y H2 (kChain r' tc σ y Q)) : tChain r r' ta tb tc σ H Q := h
theorem r_test (h : te σ H (kBl QB)) : tTest te σ H QB := h
theorem r_tB (h : te σ H (kBl QB)) : tB te σ H QB := h
theorem r_not (h : t σ H fun c H1 => QB (!c) H1) : tNot t σ H QB := h
theorem r_and (h : t σ H (kAnd u σ QB)) : tAnd t u σ H QB := h
theorem r_or (h : t σ H (kOr u σ QB)) : tOr t u σ H QB := h
theorem r_andV (h : ta σ H (kAndV tb σ Q)) : tAndV ta tb σ H Q := h
theorem r_orV (h : ta σ H (kOrV tb σ Q)) : tOrV ta tb σ H Q := h
theorem r_notV (h : ta σ H (kNotV Q)) : tNotV ta σ H Q := h
theorem r_ifE (h : t σ H (kIfE ta tb σ Q)) : tIf t ta tb σ H Q := h
theorem r_nil {QL : List V → Hp → Prop} (q : QL [] H) : tNil σ H QL := q
theorem r_cons {QL : List V → Hp → Prop} (h : ta σ H fun x H1 => tl σ H1 fun xs H2 => QL (x :: xs) H2) : tCons ta tl σ H QL := h
theorem r_tup (h : tl σ H (kTup Q)) : tTup tl σ H Q := h
theorem r_lst (h : tl σ H (kLst Q)) : tLst tl σ H Q := h
theorem r_fld {f : Str} (h : ta σ H (kFld K f Q)) : tFld K ta f σ H Q := h
theorem r_fn {sp : Sp} {W : WX} (h : tl σ H fun vs H1 => sp vs H1 Q (WE W σ)) : tFn sp W tl σ H Q := h
theorem r_meth {C : Addr} {m : Str} {sp : Sp} {W : WX} (h : ta σ H (kMeth C m σ tl fun x vs H2 => sp (x :: vs) H2 Q (WE W σ))) : tMethS C m sp W ta tl σ H Q := h
theorem r_CB {rr : List V → Hp → VK → Prop} (h : tl σ H fun vs H1 => rr vs H1 Q) : tCB rr tl σ H Q := h
theorem r_BM {T : String} {rr : V → List V → Hp → VK → Prop} (h : ta σ H (kTy K T fun x H1 => tl σ H1 fun xs H2 => rr x xs H2 Q)) : tBM K T rr ta tl σ H Q := h
theorem r_BM0 {T : String} {rr : V → List V → Hp → VK → Prop} (h : ta σ H (kTy K T fun x H1 => rr x [] H1 Q)) : tBM0 K T rr ta σ H Q := h
theorem r_M1 {rr : V → List V → Hp → VK → Prop} (h : ta σ H (kStr fun x H1 => te σ H1 fun y H2 => rr x [y] H2 Q)) : tM1 rr ta te σ H Q := h
theorem r_dget (h : ta σ H fun x H1 => tb σ H1 fun y H2 => kDGet Q x y H2) : tDGet ta tb σ H Q := h
theorem r_din (h : ta σ H fun y H1 => tb σ H1 fun x H2 => kDIn Q y x H2) : tDIn ta tb σ H Q := h
theorem r_dnotin (h : ta σ H fun y H1 => tb σ H1 fun x H2 => kDNotIn Q y x H2) : tDNotIn ta tb σ H Q := h
theorem r_dget2 (h : ta σ H (kDGet2 σ tb tc Q)) : tDGet2 ta tb tc σ H Q := h
theorem r_sl {rr : V → Option Int → Option Int → Hp → VK → Prop} {tl th : TO} (h : te σ H fun x H1 => tl σ H1 fun l H2 => th σ H2 fun w H3 => rr x l w H3 Q) : tSl rr te tl th σ H Q := h
theorem r_nopart {QO : Option Int → Hp → Prop} (q : QO none H) : tNoPart σ H QO := q
theorem r_part {QO : Option Int → Hp → Prop} (h : te σ H (kPart QO)) : tPart te σ H QO := h
theorem r_seq (h : s1 { D with nx := s2 D } σ H) : tSeq s1 s2 D σ H := h
theorem r_next (h : D.nx σ H) : tNext D σ H := h
theorem r_asg {i : Nat} (h : te σ H fun x H1 => D.nx (σ.set i (some x)) H1) : tAsg te (gName i) D σ H := h
theorem r_ret (h : te σ H D.rt) : tRet te D σ H := h
theorem r_retN (h : D.rt .non H) : tRetN D σ H := h
theorem r_drop (h : te σ H fun _ H1 => D.nx σ H1) : tDrop te D σ H := h
theorem r_if (h : t σ H (kIf s1 s2 D σ)) : tIfS t s1 s2 D σ H := h
theorem r_setF {f : Str} (h : tb σ H fun y H1 => ta σ H1 (kSetF K f y (fun H2 => D.nx σ H2))) : sFld K ta tb f D σ H := h
theorem r_dput (h : tc σ H fun v H1 => ta σ H1 fun x H2 => tb σ H2 fun y H3 => kDPut (fun H4 => D.nx σ H4) v x y H3) : sDPut ta tb tc D σ H := h
theorem r_setI (h : tc σ H fun v H1 => ta σ H1 fun o H2 => tb σ H2 fun i H3 => rSetL o i v H3 fun H4 => D.nx σ H4) : tAsg tc (gSub ta tb rSetL) D σ H := h
theorem r_raise {W : WX} {C : Addr} (h : W (.ref C) none σ H) : tRaise W C D σ H := h
theorem r_wF {E : XK} {cls : Value} {d : Option Addr} (h : E cls d H) : wF E cls d σ H := h
/-! ### values reached -/
theorem k_bl {b : Bool} (q : QB b H) : kBl QB (.bl b) H := ⟨b, rfl, q⟩
theorem k_fld {f : Str} {a C dx : Addr} {fs : List (Str × V)} {v : V} (h : H a = some (.ins C dx fs)) (hc : Cls K C) (hn : NoAttr K C f) (hl : fs.lookup f = some v) (q : Q v H) : kFld K f Q (.ref a) H := ⟨a, C, dx, fs, v, rfl, h, hc, hn, hl, q⟩
theorem k_setF {f : Str} {y : V} {nx : Hp → Prop} {a C dx : Addr} {fs : List (Str × V)} (h : H a = some (.ins C dx fs)) (hc : Cls K C) (hn : NoAttr K C f) (hl : fs.length < 1000)
    (q : ∀ H', But [a] H H' → H' a = some (.ins C dx (putF f y fs)) → nx H') : kSetF K f y nx (.ref a) H := ⟨a, C, dx, fs, rfl, h, hc, hn, hl, q _ but_upd upd_same⟩
theorem k_tup {xs : List V} (hl : xs.length ≤ sizeLine) (q : ∀ p H', H p = none → Ext H H' → H' p = some (.tup xs) → Q (.ref p) H') : kTup Q xs H := ⟨hl, fun p hp => q p _ hp (ext_new hp) upd_same⟩
theorem k_lst {xs : List V} (hl : xs.length ≤ sizeLine) (q : ∀ p H', H p = none → Ext H H' → H' p = some (.lst xs) → Q (.ref p) H') : kLst Q xs H := ⟨hl, fun p hp => q p _ hp (ext_new hp) upd_same⟩
theorem k_if {b : Bool} (h1 : b = true → s1 D σ H) (h2 : b = false → s2 D σ H) : kIf s1 s2 D σ b H := by
  cases b with
  | true => exact h1 rfl
  | false => exact h2 rfl
theorem k_ifT {b : Bool} (hb : b = true) (h1 : s1 D σ H) : kIf s1 s2 D σ b H := by
  subst hb
  exact h1
theorem k_ifF {b : Bool} (hb : b = false) (h1 : s2 D σ H) : kIf s1 s2 D σ b H := by
  subst hb
  exact h1
theorem k_ifE {b : Bool} (h1 : b = true → ta σ H Q) (h2 : b = false → tb σ H Q) : kIfE ta tb σ Q b H := by
  cases b with
  | true => exact h1 rfl
  | false => exact h2 rfl
theorem k_and {b : Bool} (h1 : b = true → u σ H QB) (h2 : b = false → QB false H) : kAnd u σ QB b H := by
  cases b with
  | true => exact h1 rfl
  | false => exact h2 rfl
theorem k_or {b : Bool} (h1 : b = true → QB true H) (h2 : b = false → u σ H QB) : kOr u σ QB b H := by
  cases b with
  | true => exact h1 rfl
  | false => exact h2 rfl
theorem k_andT (h1 : u σ H QB) : kAnd u σ QB true H := h1
theorem k_andF (h1 : QB false H) : kAnd u σ QB false H := h1
theorem k_orT (h1 : QB true H) : kOr u σ QB true H := h1
theorem k_orF (h1 : u σ H QB) : kOr u σ QB false H := h1
theorem k_andV {b : Bool} (h1 : b = true → tb σ H Q) (h2 : b = false → Q (.bl false) H) : kAndV tb σ Q (.bl b) H := ⟨b, rfl, by
  cases b with
  | true => exact h1 rfl
  | false => exact h2 rfl⟩
theorem k_orV {b : Bool} (h1 : b = true → Q (.bl true) H) (h2 : b = false → tb σ H Q) : kOrV tb σ Q (.bl b) H := ⟨b, rfl, by
  cases b with
  | true => exact h1 rfl
  | false => exact h2 rfl⟩
theorem k_andVT (h1 : tb σ H Q) : kAndV tb σ Q (.bl true) H := ⟨true, rfl, h1⟩
theorem k_andVF (h1 : Q (.bl false) H) : kAndV tb σ Q (.bl false) H := ⟨false, rfl, h1⟩
theorem k_orVT (h1 : Q (.bl true) H) : kOrV tb σ Q (.bl true) H := ⟨true, rfl, h1⟩
theorem k_orVF (h1 : tb σ H Q) : kOrV tb σ Q (.bl false) H := ⟨false, rfl, h1⟩
theorem k_notV {b : Bool} (q : Q (.bl (!b)) H) : kNotV Q (.bl b) H := ⟨b, rfl, q⟩
theorem k_chain {b : Bool} {y : V} (h1 : b = true → tc σ H fun w' H4 => r' y w' H4 Q) (h2 : b = false → Q (.bl false) H) : kChain r' tc σ y Q (.bl b) H := ⟨b, rfl, by
  cases b with
  | true => exact h1 rfl
  | false => exact h2 rfl⟩
theorem k_tyL {R : V → Hp → Prop} {a : Addr} {xs : List V} (h : H a = some (.lst xs)) (q : R (.ref a) H) : kTy K "list" R (.ref a) H := ⟨.inl ⟨rfl, _, SqL.of h⟩, q⟩
theorem k_tyQ {R : V → Hp → Prop} {a : Addr} {xs : List V} (h : SqL K H a xs) (q : R (.ref a) H) : kTy K "list" R (.ref a) H := ⟨.inl ⟨rfl, _, h⟩, q⟩
theorem k_str {R : V → Hp → Prop} {z : Str} (q : R (.str z) H) : kStr R (.str z) H := ⟨⟨z, rfl⟩, q⟩
theorem k_meth {C : Addr} {m : Str} {R : V → List V → Hp → Prop} {a dx : Addr} {fs : List (Str × V)} (h : H a = some (.ins C dx fs)) (hl : fs.lookup m = none) (q : tl σ H fun vs H2 => R (.ref a) vs H2) : kMeth C m σ tl R (.ref a) H := ⟨a, dx, fs, rfl, h, hl, q⟩
theorem k_part {QO : Option Int → Hp → Prop} {i : Int} (q : QO (some i) H) : kPart QO (.int i) H := ⟨i, rfl, q⟩
/-! ints -/
variable {i j : Int}
theorem k_addI (q : Q (.int (i + j)) H) : rAddI (.int i) (.int j) H Q := ⟨i, j, rfl, rfl, q⟩
theorem k_subI (q : Q (.int (i - j)) H) : rSubI (.int i) (.int j) H Q := ⟨i, j, rfl, rfl, q⟩
theorem k_mulI (h : CMul i j) (q : Q (.int (i * j)) H) : rMulI (.int i) (.int j) H Q := ⟨i, j, rfl, rfl, h, q⟩
theorem k_divI (h : CDiv i j) (q : Q (.int (i / j)) H) : rDivI (.int i) (.int j) H Q := ⟨i, j, rfl, rfl, h, q⟩
theorem k_modI (h : 0 < j) (q : Q (.int (i % j)) H) : rModI (.int i) (.int j) H Q := ⟨i, j, rfl, rfl, h, q⟩
theorem k_powI (h : CPow i j) (q : Q (.int (i ^ j.toNat)) H) : rPowI (.int i) (.int j) H Q := ⟨i, j, rfl, rfl, h, q⟩
theorem k_negI (q : Q (.int (-i)) H) : rNegI (.int i) H Q := ⟨i, rfl, q⟩
theorem k_ltI (q : Q (.bl (decide (i < j))) H) : rLtI (.int i) (.int j) H Q := ⟨i, j, rfl, rfl, q⟩
theorem k_leI (q : Q (.bl (decide (i ≤ j))) H) : rLeI (.int i) (.int j) H Q := ⟨i, j, rfl, rfl, q⟩
theorem k_gtI (q : Q (.bl (decide (j < i))) H) : rGtI (.int i) (.int j) H Q := ⟨i, j, rfl, rfl, q⟩
theorem k_geI (q : Q (.bl (decide (j ≤ i))) H) : rGeI (.int i) (.int j) H Q := ⟨i, j, rfl, rfl, q⟩
theorem dec_int : decide (V.int i = V.int j) = decide (i = j) := by
  by_cases h : i = j
  · rw [h, decide_eq_true rfl, decide_eq_true rfl]
  · rw [decide_eq_false h, decide_eq_false (fun z => h (V.int.inj z))]
theorem dec_str {x y : Str} : decide (V.str x = V.str y) = decide (x = y) := by
  by_cases h : x = y
  · rw [h, decide_eq_true rfl, decide_eq_true rfl]
  · rw [decide_eq_false h, decide_eq_false (fun z => h (V.str.inj z))]
theorem k_eqI (q : Q (.bl (decide (i = j))) H) : rEq (.int i) (.int j) H Q := ⟨rfl, by rw [dec_int]; exact q⟩
theorem k_neI (q : Q (.bl (!decide (i = j))) H) : rNe (.int i) (.int j) H Q := ⟨rfl, by rw [dec_int]; exact q⟩
theorem k_eqS {x y : Str} (q : Q (.bl (decide (x = y))) H) : rEq (.str x) (.str y) H Q := ⟨rfl, by rw [dec_str]; exact q⟩
theorem k_neS {x y : Str} (q : Q (.bl (!decide (x = y))) H) : rNe (.str x) (.str y) H Q := ⟨rfl, by rw [dec_str]; exact q⟩
theorem k_eqV {x y : V} (h : scal x y = true) (q : Q (.bl (decide (x = y))) H) : rEq x y H Q := ⟨h, q⟩
theorem k_neV {x y : V} (h : scal x y = true) (q : Q (.bl (!decide (x = y))) H) : rNe x y H Q := ⟨h, q⟩
theorem k_isNN (q : Q (.bl true) H) : rIsNon .non .non H Q := ⟨rfl, q⟩
theorem k_isNI (q : Q (.bl false) H) : rIsNon (.int i) .non H Q := ⟨rfl, q⟩
theorem k_isNR {a : Addr} (q : Q (.bl false) H) : rIsNon (.ref a) .non H Q := ⟨rfl, q⟩
theorem k_notNN (q : Q (.bl false) H) : rNotNon .non .non H Q := ⟨rfl, q⟩
theorem k_notNI (q : Q (.bl true) H) : rNotNon (.int i) .non H Q := ⟨rfl, q⟩
theorem k_notNR {a : Addr} (q : Q (.bl true) H) : rNotNon (.ref a) .non H Q := ⟨rfl, q⟩
theorem k_catS {x y : Str} (h : x.length + y.length ≤ sizeLine) (q : Q (.str (x ++ y)) H) : rCatS (.str x) (.str y) H Q := ⟨x, y, rfl, rfl, h, q⟩
/-! lists, tuples, texts -/
theorem k_cat {l b : Addr} {xs ys : List V} (h1 : H l = some (.lst xs)) (h2 : H b = some (.lst ys)) (hz : xs.length + ys.length ≤ sizeLine) (q : ∀ p H', H p = none → Ext H H' → H' p = some (.lst (xs ++ ys)) → Q (.ref p) H') : rCat (.ref l) (.ref b) H Q :=
  ⟨l, b, xs, ys, rfl, rfl, h1, h2, hz, fun p hp => q p _ hp (ext_new hp) upd_same⟩
theorem k_ixL {a : Addr} {xs : List V} {v : V} (h : SqL K H a xs) (ha : atI xs i = some v) (q : Q v H) : rIxL K (.ref a) (.int i) H Q := ⟨a, xs, i, v, rfl, rfl, h, ha, q⟩
theorem k_ixT {a : Addr} {xs : List V} {v : V} (h : SqT K H a xs) (ha : atI xs i = some v) (q : Q v H) : rIxT K (.ref a) (.int i) H Q := ⟨a, xs, i, v, rfl, rfl, h, ha, q⟩
theorem k_ixS {z : Str} {c : Nat} (h : z.length ≤ sizeLine) (ha : atI z.cps.toList i = some c) (q : Q (.str ⟨#[c]⟩) H) : rIxS (.str z) (.int i) H Q := ⟨z, i, c, rfl, rfl, h, ha, q⟩
theorem k_setI {a : Addr} {xs : List V} {k : Nat} {v : V} {nx : Hp → Prop} (h : H a = some (.lst xs)) (hk : ixN xs.length i = some k) (q : ∀ H', But [a] H H' → H' a = some (.lst (xs.set k v)) → nx H') : rSetL (.ref a) (.int i) v H nx :=
  ⟨a, xs, i, k, rfl, rfl, h, hk, q _ but_upd upd_same⟩
theorem k_lenL {a : Addr} {xs : List V} (h : SqL K H a xs) (q : Q (.int xs.length) H) : rLenS K [.ref a] H Q := ⟨a, xs, rfl, .inl h, q⟩
theorem k_lenU {a : Addr} {xs : List V} (h : SqT K H a xs) (q : Q (.int xs.length) H) : rLenS K [.ref a] H Q := ⟨a, xs, rfl, .inr h, q⟩
theorem k_lenT {z : Str} (h : z.length ≤ sizeLine) (q : Q (.int z.length) H) : rLenT [.str z] H Q := ⟨z, rfl, h, q⟩
theorem k_lenD {a : Addr} {kvs : List (Key × V)} (h : H a = some (.dK kvs)) (q : Q (.int kvs.length) H) : rLenD [.ref a] H Q := ⟨a, kvs, rfl, h, q⟩
theorem k_list {a : Addr} {xs : List V} (h : SqL K H a xs) (q : ∀ p H', H p = none → Ext H H' → H' p = some (.lst xs) → Q (.ref p) H') : rListS K [.ref a] H Q := ⟨a, xs, rfl, .inl h, fun p hp => q p _ hp (ext_new hp) upd_same⟩
theorem k_int1 {b : Bool} (q : Q (.int (if b then 1 else 0)) H) : rInt1 [.bl b] H Q := .inr ⟨b, rfl, q⟩
theorem k_strI (h : i.natAbs.log2 < 1920) (q : Q (.str (toString i)) H) : rStrI [.int i] H Q := ⟨i, rfl, h, q⟩
theorem k_intS {z : Str} {n : Int} (h : PySem.intText? z = some n) (hz : z.length ≤ 640) (q : Q (.int n) H) : rIntS [.str z] H Q := ⟨z, n, rfl, h, hz, q⟩
theorem k_max2 (q : Q (.int (if j > i then j else i)) H) : rMax2 [.int i, .int j] H Q := ⟨i, j, rfl, q⟩
theorem k_min2 (q : Q (.int (if j < i then j else i)) H) : rMin2 [.int i, .int j] H Q := ⟨i, j, rfl, q⟩
theorem k_append {a : Addr} {xs : List V} {y : V} (h : H a = some (.lst xs)) (hz : xs.length < sizeLine) (q : ∀ H', But [a] H H' → H' a = some (.lst (xs ++ [y])) → Q .non H') : rAppend (.ref a) [y] H Q := ⟨a, xs, y, rfl, rfl, h, hz, q _ but_upd upd_same⟩
theorem k_clear {a : Addr} {xs : List V} (h : H a = some (.lst xs)) (q : ∀ H', But [a] H H' → H' a = some (.lst []) → Q .non H') : rClear (.ref a) [] H Q := ⟨a, xs, rfl, rfl, h, q _ but_upd upd_same⟩
theorem k_isB_ii (q : Q (.bl true) H) : rIsB K "int" [.int i, .ty "int"] H Q := ⟨_, "int", true, rfl, .base (.int i), by decide +kernel, q⟩
theorem k_isB_ib (q : Q (.bl false) H) : rIsB K "bool" [.int i, .ty "bool"] H Q := ⟨_, "int", false, rfl, .base (.int i), by decide +kernel, q⟩
theorem k_isB_bi {x : Bool} (q : Q (.bl true) H) : rIsB K "int" [.bl x, .ty "int"] H Q := ⟨_, "bool", true, rfl, .base (.bl x), by decide +kernel, q⟩
theorem k_isB_bb {x : Bool} (q : Q (.bl true) H) : rIsB K "bool" [.bl x, .ty "bool"] H Q := ⟨_, "bool", true, rfl, .base (.bl x), by decide +kernel, q⟩
theorem k_isB_ni (q : Q (.bl false) H) : rIsB K "int" [.non, .ty "int"] H Q := ⟨_, "NoneType", false, rfl, .base .non, by decide +kernel, q⟩
theorem k_isB_ss {x : Str} (q : Q (.bl true) H) : rIsB K "str" [.str x, .ty "str"] H Q := ⟨_, "str", true, rfl, .base (.str x), by decide +kernel, q⟩
theorem k_isB_ll {a : Addr} {xs : List V} (h : H a = some (.lst xs)) (q : Q (.bl true) H) : rIsB K "list" [.ref a, .ty "list"] H Q := ⟨_, "list", true, rfl, .base (.lst h), by decide +kernel, q⟩
theorem k_isB_tt {a : Addr} {xs : List V} (h : H a = some (.tup xs)) (q : Q (.bl true) H) : rIsB K "tuple" [.ref a, .ty "tuple"] H Q := ⟨_, "tuple", true, rfl, .base (.tup h), by decide +kernel, q⟩
/-! dicts -/
theorem k_dget {a : Addr} {kvs : List (Key × V)} {k : Key} {v : V} (h : Rd H a (.dK kvs)) (hv : valV kvs k = some v) (q : Q v H) : kDGet Q (.ref a) (kV k) H := ⟨a, v, rfl, .inl ⟨kvs, k, h, rfl, hv.symm⟩, q⟩
theorem k_din {a : Addr} {kvs : List (Key × V)} {k : Key} (h : Rd H a (.dK kvs)) (q : Q (.bl (valV kvs k).isSome) H) : kDIn Q (kV k) (.ref a) H := ⟨a, _, rfl, .inl ⟨kvs, k, h, rfl, rfl⟩, q⟩
theorem k_dnotin {a : Addr} {kvs : List (Key × V)} {k : Key} (h : Rd H a (.dK kvs)) (q : Q (.bl (!(valV kvs k).isSome)) H) : kDNotIn Q (kV k) (.ref a) H := ⟨a, _, rfl, .inl ⟨kvs, k, h, rfl, rfl⟩, q⟩
theorem k_dput {a : Addr} {kvs : List (Key × V)} {k : Key} {v : V} {nx : Hp → Prop} (h : H a = some (.dK kvs)) (hz : kvs.length < sizeLine) (q : ∀ H', But [a] H H' → H' a = some (.dK (putK kvs k v)) → nx H') : kDPut nx v (.ref a) (kV k) H := ⟨a, _, rfl, DPut.k h hz, q _ but_upd upd_same⟩
end
end Rv

namespace Rv
open PySem PySem.Spec PyProof.Rows L2
/-- where the classes of the text stand -/
structure Cs where
  K : PySem.W.Frag
  river : Addr
  book : Addr
  office : Addr
  dueError : Addr
  badRiver : Addr
  badYear : Addr
  noPoint : Addr
  taken : Addr
  noRight : Addr
  notShort : Addr
  tooMuch : Addr
  unlike : Addr
  harm : Addr
  noPond : Addr
  notBelow : Addr
  badText : Addr
/-! ### the text's defs, as their callers see them -/
/-- a function of the module's -/
structure FnIn (P : Program) (w : World) (K : PySem.W.Frag) (mg : Str → Option Value) (base : Heap) (k : Nat) (x : Str) (ps : List Str) (sp : Sp) : Prop where
  ex : ∃ (f : Addr) (fd : FuncData), FnOk P w K mg base (L2.CX P w) k f fd ps sp ∧ mg x = some (.ref f) ∧ PySem.W.keepIn K (.ref f) = true ∧ Binds K fd ps []
/-- a method of the class at C -/
structure MeIn (P : Program) (w : World) (K : PySem.W.Frag) (mg : Str → Option Value) (base : Heap) (k : Nat) (C : Addr) (m : Str) (ps : List Str) (sp : Sp) : Prop where
  ex : ∃ (f : Addr) (fd : FuncData), FnOk P w K mg base (L2.CX P w) k f fd ps sp ∧ Meth K C m f ∧ Binds K fd ps []
  cl : Cls K C
/-- the class x at C, by its __init__ -/
structure MkIn (P : Program) (w : World) (K : PySem.W.Frag) (mg : Str → Option Value) (base : Heap) (k : Nat) (x : Str) (C : Addr) (ps : List Str) (sp : Sp) : Prop where
  ex : ∃ (f : Addr) (fd : FuncData), FnOk P w K mg base (L2.CX P w) k f fd ps sp ∧ Mk K C f ∧ mg x = some (.ref C) ∧ Binds K fd ps []
/-- an error's class x at C -/
structure ErIn (K : PySem.W.Frag) (mg : Str → Option Value) (x : Str) (C : Addr) : Prop where
  g : mg x = some (.ref C)
  x : PySem.W.excIn K C [.type "ValueError", .type "Exception", .type "BaseException", .type "object"] "ValueError.__new__" = true
  k : PySem.W.keepIn K (.ref C) = true
  b : PySem.W.subIn K (.ref C) (.type "BaseException") = some true
  t : PySem.W.typeIn K (.ref C) = some (.type "type")
section
variable {X : Cx} {k : Nat} {x m : Str} {C : Addr} {ps : List Str} {sp : Sp} {W : WX} {p pos apos : Pos} {e o : Expr} {es : List Expr} {ta : TE} {t : TA}
theorem pe_fn (G : FnIn X.prog X.w X.K X.mg X.base k x ps sp) (hr : Room k X.A) (tk : Takes X W) (hg : Gl X x) (ha : PA X (e :: es) t) (hdb : (x == ("__debug__" : Str)) = false := by decide)
    (he : starEach (e :: es) X.env = (false, eval e X.env) :: starEach es X.env := by rfl) (hpl : (backTo pos (starEach es X.env)).any (·.1) = false := by rfl) : PE X (.Call (.Name x p) (e :: es) [] pos) (tFn sp W t) := by
  obtain ⟨f, fd, F, hm, hk, hb⟩ := G.ex
  exact pe_callS F hr hg hm hk hb (fun σ => passAt tk σ) ha hdb he hpl
theorem pe_me {pl : Sem Bool} (G : MeIn X.prog X.w X.K X.mg X.base k C m ps sp) (hr : Room k X.A) (tk : Takes X W) (ho : PE X o ta) (ha : PA X (e :: es) t)
    (hst : starEach (e :: es) X.env = (false, eval e X.env) :: starEach es X.env := by rfl) (hpl : (backTo pos (starEach es X.env)).any (·.1) = false := by rfl)
    (ht : eval (.Call (.Attribute o m apos) (e :: es) [] pos) X.env = (do
      let ov ← eval o X.env
      standAt apos.atName
      let (f, first) ← holding [ov] (getMethod ov m pl)
      callWith pos f first (backTo pos (starEach (e :: es) X.env)) (backToKw pos (keywordEach [] X.env))) := by rfl) : PE X (.Call (.Attribute o m apos) (e :: es) [] pos) (tMethS C m sp W ta t) := by
  obtain ⟨f, fd, F, hm, hb⟩ := G.ex
  refine ⟨fun pins s σ H Q I h => ?_⟩
  refine PySem.W.methodCall_KW (pl := pl) (thn (ho.run pins s σ H _ I h) fun u s1 ⟨x, H1, I1, rx, a, dx, fs, ex, ea, l, q⟩ => ?_) ht
  subst ex
  obtain rfl : u = Value.ref a := rx
  refine getmeth_ok I1 ea G.cl hm l ?_
  refine PySem.W.callWith_K (first := [.ref a]) (h₀ := X.base) I.ok.mod.kin hm.kp (thn (ha.run pos pins s1 σ H1 _ I1 q) fun us s2 ⟨vs, H2, I2, r, q2⟩ => ⟨I2.kIn, ?_⟩) hst hpl
  exact run_fnS (us := .ref a :: us) (vs := .ref a :: vs) F hr hb (passAt tk σ) I2 (.cons rfl r) q2
theorem pe_me0 {pl : Sem Bool} (G : MeIn X.prog X.w X.K X.mg X.base k C m ps sp) (hr : Room k X.A) (tk : Takes X W) (ho : PE X o ta)
    (ht : eval (.Call (.Attribute o m apos) [] [] pos) X.env = (do
      let ov ← eval o X.env
      standAt apos.atName
      let (f, first) ← holding [ov] (getMethod ov m pl)
      callWith pos f first (backTo pos (starEach [] X.env)) (backToKw pos (keywordEach [] X.env))) := by rfl) : PE X (.Call (.Attribute o m apos) [] [] pos) (tMethS C m sp W ta tNil) := by
  obtain ⟨f, fd, F, hm, hb⟩ := G.ex
  refine ⟨fun pins s σ H Q I h => ?_⟩
  refine PySem.W.methodCall_KW (pl := pl) (thn (ho.run pins s σ H _ I h) fun u s1 ⟨x, H1, I1, rx, a, dx, fs, ex, ea, l, q⟩ => ?_) ht
  subst ex
  obtain rfl : u = Value.ref a := rx
  refine getmeth_ok I1 ea G.cl hm l ?_
  exact PySem.W.callWith_K0 (first := [.ref a]) I1.kIn hm.kp (run_fnS (us := [.ref a]) (vs := [.ref a]) F hr hb (passAt tk σ) I1 (.cons rfl .nil) q)
theorem pe_mk (G : MkIn X.prog X.w X.K X.mg X.base k x C ps sp) (hr : Room (k + 1) X.A) (tk : Takes X W) (hg : Gl X x) (ha : PA X (e :: es) t) (hdb : (x == ("__debug__" : Str)) = false := by decide)
    (he : starEach (e :: es) X.env = (false, eval e X.env) :: starEach es X.env := by rfl) (hpl : (backTo pos (starEach es X.env)).any (·.1) = false := by rfl) : PE X (.Call (.Name x p) (e :: es) [] pos) (tMakeS C sp W t) := by
  obtain ⟨f, fd, F, M, hm, hb⟩ := G.ex
  refine ⟨fun pins s σ H Q I h => ?_⟩
  refine wpAny_Call_Name_kw (ld_glob I hg hm ?_ hdb)
  refine PySem.W.callWith_K (h₀ := X.base) I.ok.mod.kin M.kp (thn (ha.run pos pins s σ H _ I h) fun us s1 ⟨vs, H1, I1, r, q⟩ => ⟨I1.kIn, ?_⟩) he hpl
  have hq := q (s1.heap.objs.size + 1) s1.heap.objs.size (I1.hok.fresh (Nat.le_succ _)) (I1.hok.fresh (Nat.le_refl _)) (Nat.ne_of_lt (Nat.lt_succ_self _))
  have I2 := Inv.made (C := C) I1
  have r2 : Vals (V.ref (s1.heap.objs.size + 1) :: vs) (Value.ref (s1.heap.objs.size + 1) :: us) := .cons rfl r
  have hl : (Value.ref (s1.heap.objs.size + 1) :: us).length = ps.length := by
    have e := r2.length
    rw [F.len _ _ _ _ hq] at e
    exact e.symm
  have b := hb _ (Value.ref (s1.heap.objs.size + 1) :: us) I2.kIn (by rw [List.append_nil]; exact hl)
  rw [List.append_nil] at b
  refine wpAny_call (make_map (f := f) I1.kIn M.makes M.init (beq_iff_eq.mp M.fn) (codeAny_mono (F.run _ X.stack _ _ ⟨Value.ref (s1.heap.objs.size + 1) :: us, []⟩ (Value.ref (s1.heap.objs.size + 1) :: us) _ _ (WE W σ) (hr.make C us [])
    (I2.env0.make C us []) b r2 hq) fun r s' hq' => ?_))
  cases r with
  | error e => exact passAt tk σ pins _ _ e s' I2 hq'
  | ok fl =>
    cases fl with
    | ret u =>
      obtain ⟨v, H', I3, rv, ev, q3⟩ := I2.after hq'
      subst ev
      exact ⟨rv, ⟨V.ref (s1.heap.objs.size + 1), H', I3, rfl, q3⟩⟩
    | next => exact False.elim hq'
    | brk => exact False.elim hq'
    | cont => exact False.elim hq'
/-- raise x("..") -/
theorem ps_rz {mm : Str} {j : Nat} {p2 pos2 : Pos} (hc : X.calm = true) (G : ErIn X.K X.mg x C) (tk : Takes X W) (hg : Gl X x) (hdb : (x == ("__debug__" : Str)) = false := by decide) :
    PS X (.Raise (some (.Call (.Name x p) [.Constant (.str mm) j p2] [] pos)) none pos2) (tRaise W C) :=
  ps_raise hc tk (pmk_own PySem.F.excBase_ValueError G.x G.g G.k (raises_own G.b G.t) hg hdb)
end
/-! ### an error that a suite holds -/
def rIsX (K : PySem.W.Frag) (a : Addr) (cls : Value) (d : Option Addr) : List V → Hp → VK → Prop := fun xs H Q => ∃ (D C : Addr) (b : Bool), cls = .ref D ∧ d = none ∧ ExcC K D ∧ xs = [.ref a, .ref C] ∧ PySem.W.kitOne K (.ref D) (.ref C) = some b ∧ Q (.bl b) H
theorem c_isX {X : Cx} {a : Addr} {oe : Obj} {cls : Value} {d : Option Addr} {pn : List (Addr × Obj)} (hz : Zc cls d oe) (hf : ∃ vs, oe.data = .fields vs) : CallR (X.suite a ((a, oe) :: pn)) (.builtin "isinstance") (rIsX X.K a cls d) := by
  intro pins s σ H xs us Q I r h
  obtain ⟨D, C, b, rfl, rfl, hC, rfl, hk, q⟩ := h
  exact call_isE hC hz hf pins s σ H _ us Q I r ⟨.ref C, .ref C, b, rfl, fun u h => h, hk, q⟩
theorem k_isX {K : PySem.W.Frag} {H : Hp} {Q : VK} {a D C : Addr} {b : Bool} (hC : ExcC K D) (hk : PySem.W.kitOne K (.ref D) (.ref C) = some b) (q : Q (.bl b) H) : rIsX K a (.ref D) none [.ref a, .ref C] H Q := ⟨D, C, b, rfl, rfl, hC, rfl, hk, q⟩
/-! ### the errors' classes among each other -/
theorem exm_of {K : PySem.W.Frag} {S : Addr} {cls : Value} {b : Bool} (h1 : PySem.W.subIn K (.ref S) (.type "BaseException") = some true) (h2 : PySem.W.isClsIn K S = true) (h3 : PySem.W.typeIn K (.ref S) = some (.type "type")) (h4 : PySem.W.subIn K cls (.ref S) = some b) :
    PySem.W.exmOne K cls (.ref S) = some b := by
  have e1 : (PySem.W.subIn K (.ref S) (.type "BaseException") == some true) = true := by rw [h1] <;> rfl
  have e2 : ((PySem.W.clsIn K S).isSome && PySem.W.typeIn K (.ref S) == some (.type "type")) = true := by
    have h2' : (PySem.W.clsIn K S).isSome = true := h2
    rw [h2', h3] <;> rfl
  show (if (PySem.W.subIn K (.ref S) (.type "BaseException") == some true) = true then (if ((PySem.W.clsIn K S).isSome && PySem.W.typeIn K (.ref S) == some (.type "type")) = true then PySem.W.subIn K cls (.ref S) else none) else none) = some b
  rw [if_pos e1, if_pos e2]
  exact h4
theorem kit_of2 {K : PySem.W.Frag} {D S : Addr} {b : Bool} (h2 : PySem.W.isClsIn K S = true) (h3 : PySem.W.typeIn K (.ref S) = some (.type "type")) (h4 : PySem.W.subIn K (.ref D) (.ref S) = some b) (h5 : (Value.ref D == Value.ref S) = true → b = true) :
    PySem.W.kitOne K (.ref D) (.ref S) = some b := by
  unfold PySem.W.kitOne
  by_cases e : (Value.ref D == Value.ref S) = true
  · rw [if_pos e, h5 e]
  · rw [if_neg e]
    have e2 : ((PySem.W.clsIn K S).isSome && PySem.W.typeIn K (.ref S) == some (.type "type")) = true := by
      have h2' : (PySem.W.clsIn K S).isSome = true := h2
      rw [h2', h3] <;> rfl
    show (if ((PySem.W.clsIn K S).isSome && PySem.W.typeIn K (.ref S) == some (.type "type")) = true then PySem.W.subIn K (.ref D) (.ref S) else none) = some b
    rw [if_pos e2]
    exact h4
theorem kit_t {K : PySem.W.Frag} {D S : Addr} (h2 : PySem.W.isClsIn K S = true) (h3 : PySem.W.typeIn K (.ref S) = some (.type "type")) (h4 : PySem.W.subIn K (.ref D) (.ref S) = some true) : PySem.W.kitOne K (.ref D) (.ref S) = some true := kit_of2 h2 h3 h4 fun _ => rfl
/-- two classes apart: the one has the other's base above it, or they differ in being under a third -/
theorem kit_f {K : PySem.W.Frag} {D S : Addr} (h2 : PySem.W.isClsIn K S = true) (h3 : PySem.W.typeIn K (.ref S) = some (.type "type")) (h4 : PySem.W.subIn K (.ref D) (.ref S) = some false) (h5 : PySem.W.subIn K (.ref S) (.ref S) = some true) : PySem.W.kitOne K (.ref D) (.ref S) = some false :=
  kit_of2 h2 h3 h4 fun e => by
    have e' : D = S := by simpa using e
    rw [e', h5] at h4
    cases h4
/-! ### a def by its body -/
section
variable {P : Program} {w : World} {K : PySem.W.Frag} {mg : Str → Option Value} {base : Heap}
theorem fn_by {x : Str} {st : Stmt} {f : Addr} {fd : FuncData} {N ps : List Str} {k : Nat} {sp : Sp} {tt : XK → TS} (F : Fun K x x st f fd) (hm : mg x = some (.ref f)) (hb : Binds K fd ps []) (S : FnScope N ps (defScope st))
    (len : ∀ vs H Q E, sp vs H Q E → vs.length = ps.length) (pure : ∀ vs H Q E, sp vs H Q E → tt E { nx := fun _ H' => Q .non H', rt := Q } (start N vs) H)
    (der : ∀ (cdv : Value) (A : Around) (outer : List Env) (s : Shared) (H : Hp) (E : XK), Room k (A.deeper (envOfC x (defScope st) s.heap.objs.size f cdv)) → Takes (cxOf (L2.CX P w) P w K mg base N x (defScope st) f cdv A outer s H E) (wF E) → PassesOwn (model P w) (cxOf (L2.CX P w) P w K mg base N x (defScope st) f cdv A outer s H E).A (cxOf (L2.CX P w) P w K mg base N x (defScope st) f cdv A outer s H E).env (cxOf (L2.CX P w) P w K mg base N x (defScope st) f cdv A outer s H E).xe → PSs (cxOf (L2.CX P w) P w K mg base N x (defScope st) f cdv A outer s H E) (defBody st) (tt E)) :
    FnIn P w K mg base (k + 1) x ps sp :=
  ⟨⟨f, fd, F.okX S len (fun cdv A outer s H vs Q E hr h => ⟨tt E, der cdv A outer s H E hr (takes_of rfl rfl rfl rfl) (passes_of rfl), pure vs H Q E h⟩), hm, F.kp, hb⟩⟩
theorem me_by {m qual : Str} {C : Addr} {st : Stmt} {f : Addr} {fd : FuncData} {N ps : List Str} {k : Nat} {sp : Sp} {tt : XK → TS} (F : Fun K m qual st f fd) (hM : Meth K C m f) (hC : Cls K C) (hb : Binds K fd ps []) (S : FnScope N ps (defScope st))
    (len : ∀ vs H Q E, sp vs H Q E → vs.length = ps.length) (pure : ∀ vs H Q E, sp vs H Q E → tt E { nx := fun _ H' => Q .non H', rt := Q } (start N vs) H)
    (der : ∀ (cdv : Value) (A : Around) (outer : List Env) (s : Shared) (H : Hp) (E : XK), Room k (A.deeper (envOfC qual (defScope st) s.heap.objs.size f cdv)) → Takes (cxOf (L2.CX P w) P w K mg base N qual (defScope st) f cdv A outer s H E) (wF E) → PassesOwn (model P w) (cxOf (L2.CX P w) P w K mg base N qual (defScope st) f cdv A outer s H E).A (cxOf (L2.CX P w) P w K mg base N qual (defScope st) f cdv A outer s H E).env (cxOf (L2.CX P w) P w K mg base N qual (defScope st) f cdv A outer s H E).xe → PSs (cxOf (L2.CX P w) P w K mg base N qual (defScope st) f cdv A outer s H E) (defBody st) (tt E)) :
    MeIn P w K mg base (k + 1) C m ps sp :=
  ⟨⟨f, fd, F.okX S len (fun cdv A outer s H vs Q E hr h => ⟨tt E, der cdv A outer s H E hr (takes_of rfl rfl rfl rfl) (passes_of rfl), pure vs H Q E h⟩), hM, hb⟩, hC⟩
theorem mk_by {x qual : Str} {C : Addr} {st : Stmt} {f : Addr} {fd : FuncData} {N ps : List Str} {k : Nat} {sp : Sp} {tt : XK → TS} (F : Fun K "__init__" qual st f fd) (hM : Mk K C f) (hm : mg x = some (.ref C)) (hb : Binds K fd ps []) (S : FnScope N ps (defScope st))
    (len : ∀ vs H Q E, sp vs H Q E → vs.length = ps.length) (pure : ∀ vs H Q E, sp vs H Q E → tt E { nx := fun _ H' => Q .non H', rt := Q } (start N vs) H)
    (der : ∀ (cdv : Value) (A : Around) (outer : List Env) (s : Shared) (H : Hp) (E : XK), Room k (A.deeper (envOfC qual (defScope st) s.heap.objs.size f cdv)) → Takes (cxOf (L2.CX P w) P w K mg base N qual (defScope st) f cdv A outer s H E) (wF E) → PassesOwn (model P w) (cxOf (L2.CX P w) P w K mg base N qual (defScope st) f cdv A outer s H E).A (cxOf (L2.CX P w) P w K mg base N qual (defScope st) f cdv A outer s H E).env (cxOf (L2.CX P w) P w K mg base N qual (defScope st) f cdv A outer s H E).xe → PSs (cxOf (L2.CX P w) P w K mg base N qual (defScope st) f cdv A outer s H E) (defBody st) (tt E)) :
    MkIn P w K mg base (k + 1) x C ps sp :=
  ⟨⟨f, fd, F.okX S len (fun cdv A outer s H vs Q E hr h => ⟨tt E, der cdv A outer s H E hr (takes_of rfl rfl rfl rfl) (passes_of rfl), pure vs H Q E h⟩), hM, hm, hb⟩⟩
/-- the law's own def -/
theorem ok_by {x : Str} {st : Stmt} {f : Addr} {fd : FuncData} {N ps : List Str} {k : Nat} {sp : Sp} {tt : XK → TS} (F : Fun K x x st f fd) (S : FnScope N ps (defScope st))
    (len : ∀ vs H Q E, sp vs H Q E → vs.length = ps.length) (pure : ∀ vs H Q E, sp vs H Q E → tt E { nx := fun _ H' => Q .non H', rt := Q } (start N vs) H)
    (der : ∀ (cdv : Value) (A : Around) (outer : List Env) (s : Shared) (H : Hp) (E : XK), Room k (A.deeper (envOfC x (defScope st) s.heap.objs.size f cdv)) → Takes (cxOf (L2.CX P w) P w K mg base N x (defScope st) f cdv A outer s H E) (wF E) → PassesOwn (model P w) (cxOf (L2.CX P w) P w K mg base N x (defScope st) f cdv A outer s H E).A (cxOf (L2.CX P w) P w K mg base N x (defScope st) f cdv A outer s H E).env (cxOf (L2.CX P w) P w K mg base N x (defScope st) f cdv A outer s H E).xe → PSs (cxOf (L2.CX P w) P w K mg base N x (defScope st) f cdv A outer s H E) (defBody st) (tt E)) :
    FnOk P w K mg base (L2.CX P w) (k + 1) f fd ps sp := F.okX S len (fun cdv A outer s H vs Q E hr h => ⟨tt E, der cdv A outer s H E hr (takes_of rfl rfl rfl rfl) (passes_of rfl), pure vs H Q E h⟩)
end
/-! ### fields -/
theorem lk_here {k : Str} {v : V} {r : List (Str × V)} : List.lookup k ((k, v) :: r) = some v := by
  have e : (k == k) = true := beq_self_eq_true k
  simp only [List.lookup, e]
theorem lk_past {k g : Str} {v : V} {r : List (Str × V)} (h : (k == g) = false) : List.lookup k ((g, v) :: r) = List.lookup k r := by
  simp only [List.lookup, h]
theorem put_here {f : Str} {v x : V} {r : List (Str × V)} : putF f v ((f, x) :: r) = (f, v) :: r := if_pos rfl
theorem put_past {f g : Str} {v x : V} {r : List (Str × V)} (h : ¬ g = f) : putF f v ((g, x) :: r) = (g, x) :: putF f v r := if_neg h
theorem put_nil {f : Str} {v : V} : putF f v [] = [(f, v)] := rfl
end Rv

namespace Rv
open PySem PySem.Spec PyProof.Rows L2
/-! ### several except clauses, some with a name -/
abbrev Cl := Value × Option Nat × (Addr → Value → Option Addr → TS)
def dropE : Option Nat → Ends → Ends
  | none, D => D
  | some i, D => ⟨fun τ G => D.nx (τ.set i none) G, D.rt, fun τ G => D.bk (τ.set i none) G, fun τ G => D.ct (τ.set i none) G⟩
def putE : Option Nat → Addr → L2.St → L2.St
  | none, _, τ => τ
  | some i, a, τ => τ.set i (some (.ref a))
def wMn (K : PySem.W.Frag) (Wo : WX) (D : Ends) : List Cl → WX
  | [] => Wo
  | (c, o, ts) :: r => fun cls d τ G => ∃ y, PySem.W.exmOne K cls c = some y ∧ (y = true → ∀ a, G a = none → ts a cls d (dropE o D) (putE o a τ) G) ∧ (y = false → wMn K Wo D r cls d τ G)
def tTryMn (K : PySem.W.Frag) (tb : WX → TS) (l : List Cl) (Wo : WX) : TS := fun D σ H => tb (wMn K Wo D l) D σ H
theorem r_dropE {i : Nat} {D : Ends} {σ : L2.St} {H : Hp} (h : D.nx (σ.set i none) H) : (dropE (some i) D).nx σ H := h
theorem r_dropR {i : Nat} {D : Ends} {v : V} {H : Hp} (h : D.rt v H) : (dropE (some i) D).rt v H := h
theorem r_dropN {D : Ends} {σ : L2.St} {H : Hp} (h : D.nx σ H) : (dropE none D).nx σ H := h
theorem r_dropM {D : Ends} {v : V} {H : Hp} (h : D.rt v H) : (dropE none D).rt v H := h
inductive Hds (X : Cx) : List ExceptHandler → List Cl → Prop
  | nil : Hds X [] []
  | bare {x : Str} {c : Value} {ts : Addr → Value → Option Addr → TS} {z : Stmt} {zs : List Stmt} {p q : Pos} {r : List ExceptHandler} {l : List Cl} (nm : Names X x c)
      (su : ∀ (a : Addr) (ob : Obj) (cls : Value) (d : Option Addr) (pn : List (Addr × Obj)), Zc cls d ob → (∃ vs, ob.data = .fields vs) → PSs (X.suite a ((a, ob) :: pn)) (z :: zs) (ts a cls d)) (tl : Hds X r l) :
      Hds X (.ExceptHandler (some (.Name x p)) none (z :: zs) q :: r) ((c, none, ts) :: l)
  | named {x m : Str} {i : Nat} {c : Value} {ts : Addr → Value → Option Addr → TS} {z : Stmt} {zs : List Stmt} {p q : Pos} {r : List ExceptHandler} {l : List Cl} (at_ : X.N[i]? = some m) (kd : X.env.kindOf m = some .local) (nm : Names X x c)
      (su : ∀ (a : Addr) (ob : Obj) (cls : Value) (d : Option Addr) (pn : List (Addr × Obj)), Zc cls d ob → (∃ vs, ob.data = .fields vs) → PSs (X.suite a ((a, ob) :: pn)) (z :: zs) (ts a cls d)) (tl : Hds X r l) :
      Hds X (.ExceptHandler (some (.Name x p)) (some m) (z :: zs) q :: r) ((c, some i, ts) :: l)
section
variable {X : Cx} {body : List Stmt} {e0 : ExceptHandler} {es : List ExceptHandler} {l : List Cl} {pos : Pos} {tb : WX → TS} {Wo : WX}
theorem ps_try_mn (st : X.stack = X.env :: X.outer) (fr : X.env.frame = some X.env.locals) (nd : X.N.Nodup) (tk : Takes X Wo)
    (bd : ∀ (W : WX) (pn : List (Addr × Obj)) (xe : Value → Shared → Prop), Takes (X.tr pn xe) W → PassesOwn (model X.prog X.w) X.A X.env xe → PSs (X.tr pn xe) body (tb W))
    (hd : Hds X (e0 :: es) l) : PS X (.Try body (e0 :: es) [] [] pos) (tTryMn X.K tb l Wo) := by
  constructor
  intro pins s τ G D I w0
  have ok := I.ok
  have frs3 : X.A.frames = some (X.env :: X.outer) := by rw [ok.frames, st]
  apply wpAny_Try_except
  refine wpAny_mono ((bd (wMn X.K Wo D l) (X.pn ++ pins) (fun v s1 => wpAny (model X.prog X.w) X.A (noteFrame v X.env) (fun _ s2 => wpAny (model X.prog X.w) X.A (setFlight v none)
    (fun _ s3 => wpAny (model X.prog X.w) X.A (handleBy v X.env (e0 :: es)) (SP X pins D) X.xe s3) X.xe s2) X.xe s1) ?_ PassesOwn.looking).run [] s τ G D (I.toTry _) w0) ?_ (fun _ _ z => z)
  · rintro v s1 ⟨a, B0, sJ, pj, τ1, G1, cls, d, rfl, Ij, nb, up, sk, na, os1, ag, wish⟩
    have I1 : Inv X pins τ1 G1 sJ := Ij.ofTry ok
    have sk1 : Sky B0 (X.env :: X.outer) a (Zc cls d) X.env.locals s1.heap := by rw [← st]; exact sk
    show wpAny (model X.prog X.w) X.A (noteFrame (.ref a) X.env) _ _ _
    refine Sky.land Zc.steady frs3 fr sk1 fun hp1 fl1 up1 => ?_
    have I2 : Inv X pins τ1 G1 { s1 with heap := hp1 } := I1.landed nb fl1.1 (up.trans up1) os1 ag
    obtain ⟨ob1, vs1, at1, z1, dat1⟩ := fl1.there
    have na2 : a ∉ frs (X.env :: X.outer) := fun hm => by
      obtain ⟨_, o2, e2, nf2⟩ := fl1.2.2.1.mem hm
      rw [at1] at e2
      cases e2
      exact nf2 _ dat1
    have nl2 : a ≠ X.env.locals := fun z => na2 (List.mem_filterMap.mpr ⟨X.env, List.mem_cons_self, by rw [fr, z]⟩)
    have nf2 : a ∉ X.fs := fun hm => by
      obtain ⟨en, hen, qe⟩ := List.mem_filterMap.mp hm
      exact na2 (List.mem_filterMap.mpr ⟨en, List.mem_cons_of_mem _ hen, qe⟩)
    have Is := I2.suite at1 dat1 na nl2 nf2
    have looks : PySem.W.Looks (model X.prog X.w) hp1 (typeOf (.ref a)) cls := fun A Q E s k q => wpAny_typeOf_ref (k _ _ at1) (by rw [z1.1]; exact q)
    have asks : ∀ {x : Str} {c : Value} {p : Pos} {Q : Value → Shared → Prop} {E : Value → Shared → Prop}, Names X x c → Q c { s1 with heap := hp1 } → wpAny (model X.prog X.w) (X.A.mark (some (.ref a))) (eval (.Name x p) X.env) Q E { s1 with heap := hp1 } := fun {x c p Q E} nm q => by
      rcases nm with ⟨g1, g2, g3 | ⟨g3, g4, g5⟩⟩
      · exact ld_glob (X := X.suite a ((a, ob1) :: (X.pn ++ pins))) Is g1 g3 q g2
      · exact ld_blt (X := X.suite a ((a, ob1) :: (X.pn ++ pins))) Is g1 g3 g4 q g5 g2
    suffices all : ∀ {hs : List ExceptHandler} {ls : List Cl}, Hds X hs ls → wMn X.K Wo D ls cls d τ1 G1 → wpAny (model X.prog X.w) X.A (handleBy (.ref a) X.env hs) (SP X pins D) X.xe { s1 with heap := hp1 } from all hd wish
    intro hs ls k
    induction k with
    | nil =>
      intro w
      apply wpAny_handleBy_nil
      obtain ⟨_, _, _, ob2, vs2, T2, oT2, tb2, at2, z2, dat2, fld, _⟩ := id fl1
      unfold PySem.passOn
      refine wpAny_bind (wpAny_field at2 dat2 fld ?_)
      rw [if_neg (by simp : ¬ ((Value.ref T2 == Value.none) = true))]
      have away : wpAny (model X.prog X.w) X.A (setFlight (.ref a) X.env.frame) (fun _ s4 => wpAny (model X.prog X.w) X.A (throw (.ref a) : Sem Flow) (SP X pins D) X.xe s4) X.xe { s1 with heap := hp1 } := by
        rw [fr]
        exact HandSPX.setFlight_upZ fl1 fun hp2 in2 up2 => wpAny_throw (tk _ _ ⟨a, B0, sJ, pins, τ1, G1, cls, d, rfl, I1, nb, (up.trans up1).trans up2, .inr (.inr (by rw [st]; exact in2)), na, os1, ag, w⟩)
      first
        | exact wpAny_bind (wpAny_pure (wpAny_bind away))
        | exact wpAny_bind away
    | @bare x c ts z zs p q r l2 nm su tl ih =>
      rintro ⟨y, hy, yes, no⟩
      refine wpAny_handleBy_cons (codeAny_handlers_test ?_) (fun z => by cases z)
      refine asks nm ((PySem.W.exm_one (M := model X.prog X.w) I2.kIn looks hy).here ?_)
      cases y with
      | false => exact ih (no rfl)
      | true =>
        apply codeAny_handlers_suite
        refine HandSPX.lands_againZ fl1 fun hp2 fl2 up2 => ?_
        obtain ⟨ob2, vs2, at2, z2, dat2⟩ := fl2.there
        have Ib : Inv X pins τ1 G1 { s1 with heap := hp2 } := I1.landed nb fl2.1 ((up.trans up1).trans up2) os1 ag
        have I3 := Ib.suite at2 dat2 na nl2 nf2
        refine wpAny_mono ((su a ob2 cls d (X.pn ++ pins) z2 ⟨_, dat2⟩).run [] _ _ G1 _ I3 (yes rfl a na)) ?_ (fun _ _ z => z.elim)
        rintro (_ | _ | _ | u) s6 en
        · obtain ⟨τ6, G6, I6, q6⟩ := en
          exact ⟨_, _, I6.unsuite ok, q6⟩
        · obtain ⟨τ6, G6, I6, q6⟩ := en
          exact ⟨_, _, I6.unsuite ok, q6⟩
        · obtain ⟨τ6, G6, I6, q6⟩ := en
          exact ⟨_, _, I6.unsuite ok, q6⟩
        · obtain ⟨v6, τ6, G6, I6, r6, q6⟩ := en
          exact ⟨_, _, _, I6.unsuite ok, r6, q6⟩
    | @named x m i c ts z zs p q r l2 at_ kd nm su tl ih =>
      rintro ⟨y, hy, yes, no⟩
      refine wpAny_handleBy_cons (codeAny_handlers_test ?_) (fun z => by cases z)
      refine asks nm ((PySem.W.exm_one (M := model X.prog X.w) I2.kIn looks hy).here ?_)
      cases y with
      | false => exact ih (no rfl)
      | true =>
        apply codeAny_handlers_suite_as
        refine HandSPX.lands_againZ fl1 fun hp2 fl2 up2 => ?_
        obtain ⟨ob2, vs2, at2, z2, dat2⟩ := fl2.there
        have Ib : Inv X pins τ1 G1 { s1 with heap := hp2 } := I1.landed nb fl2.1 ((up.trans up1).trans up2) os1 ag
        have I3 := Ib.suite at2 dat2 na nl2 nf2
        refine store_ok (X := X.suite a ((a, ob2) :: (X.pn ++ pins))) (v := .ref a) I3 nd at_ (.inl kd) rfl (fun s5 I5 => ?_) (.inr kd)
        refine wpAny_mono ((su a ob2 cls d (X.pn ++ pins) z2 ⟨_, dat2⟩).run [] s5 _ G1 _ I5 (yes rfl a na)) ?_ (fun _ _ z => z.elim)
        have gone : ∀ {s6 : Shared} {τ6 : L2.St} {G6 : Hp} {Q : Shared → Prop}, Inv (X.suite a ((a, ob2) :: (X.pn ++ pins))) [] τ6 G6 s6 → (∀ s7, Inv X pins (τ6.set i none) G6 s7 → Q s7) →
            wpAny (model X.prog X.w) X.A (do bindName X.env m .none; unbindBehindTheSuite X.env m q) (fun _ s7 => Q s7) X.xe s6 := fun I6 hq => gone_ok (I6.unsuite ok) nd at_ kd hq
        rintro (_ | _ | _ | u) s6 en
        · obtain ⟨τ6, G6, I6, q6⟩ := en
          exact gone I6 fun s7 I7 => ⟨_, _, I7, q6⟩
        · obtain ⟨τ6, G6, I6, q6⟩ := en
          exact gone I6 fun s7 I7 => ⟨_, _, I7, q6⟩
        · obtain ⟨τ6, G6, I6, q6⟩ := en
          exact gone I6 fun s7 I7 => ⟨_, _, I7, q6⟩
        · obtain ⟨v6, τ6, G6, I6, r6, q6⟩ := en
          exact gone I6 fun s7 I7 => ⟨_, _, _, I7, r6, q6⟩
  · rintro (_ | _ | _ | u) s1 en
    · obtain ⟨τ1, G1, I1, q1⟩ := en
      exact wpAny_execs_nil ⟨τ1, G1, I1.ofTry ok, q1⟩
    · obtain ⟨τ1, G1, I1, q1⟩ := en
      exact ⟨τ1, G1, I1.ofTry ok, q1⟩
    · obtain ⟨τ1, G1, I1, q1⟩ := en
      exact ⟨τ1, G1, I1.ofTry ok, q1⟩
    · obtain ⟨v1, τ1, G1, I1, r1, q1⟩ := en
      exact ⟨v1, τ1, G1, I1.ofTry ok, r1, q1⟩
end
end Rv

namespace Rv
open PySem L2
theorem pe_gI {X : Cx} {x : Str} {n : Int} {p : Pos} (hg : Gl X x) (hm : ∃ t, X.mg x = some (.int n t)) (hd : (x == ("__debug__" : Str)) = false := by decide) : PE X (.Name x p) (tC (.int n)) := by
  obtain ⟨t, h⟩ := hm
  exact pe_glob hg h ⟨t, rfl⟩ hd
theorem pe_gS {X : Cx} {x z : Str} {p : Pos} (hg : Gl X x) (hm : ∃ t, X.mg x = some (.str z t)) (hd : (x == ("__debug__" : Str)) = false := by decide) : PE X (.Name x p) (tC (.str z)) := by
  obtain ⟨t, h⟩ := hm
  exact pe_glob hg h ⟨t, rfl⟩ hd
/-! ### the tries -/
def tTryAs (K : PySem.W.Frag) (C : Addr) (i : Nat) (tb : WX → TS) (ts : Addr → Value → Option Addr → TS) (Wout : WX) : TS := fun D σ H => tb (wAs K (.ref C) i ts Wout D) D σ H
def tTryOnly (K : PySem.W.Frag) (C : Addr) (tb : WX → TS) (ts : Addr → Value → Option Addr → TS) (Wout : WX) : TS := fun D σ H => tb (wOnly K (.ref C) ts Wout D) D σ H
/-! ### what is walked -/
def kFor (g : TG) (tb : TS) (D : Ends) (σ : L2.St) : It → Hp → Prop := fun J H1 => ∃ W : Nat → Nat → L2.St → Hp → Prop, (∃ m, W 0 m σ H1) ∧ ∀ i m σ H, W i m σ H →
  (J.stop i H ∧ D.nx σ H) ∨ (J.go i H ∧ ∃ N : L2.St → Hp → Prop, (∀ σ' H', N σ' H' → ∃ m', m' < m ∧ W (i + 1) m' σ' H') ∧ ∀ x H', J.yld i H x H' → g x σ H' fun σ2 H2 => tb { D with nx := N, ct := N, bk := D.nx } σ2 H2)
def kLc (g : TG) (tt : TT) (te : TE) (vs : List Nat) (σ : L2.St) (Q : VK) : It → Hp → Prop := fun J H1 => ∀ D, H1 D = none → ∃ W : Nat → Nat → Hp → Prop, (∃ m, W 0 m (upd H1 D (.lst []))) ∧ ∀ i m H, W i m H →
  (J.stop i H ∧ Q (.ref D) H) ∨ (J.go i H ∧ ∃ Nx : Hp → Prop, (∀ H', Nx H' → ∃ m', m' < m ∧ W (i + 1) m' H') ∧ ∀ x H', J.yld i H x H' → g x (wipe σ vs) H' fun σ2 H2 => wipe σ2 vs = wipe σ vs ∧ tt σ2 H2 fun b H3 =>
    if b = true then te σ2 H3 fun y H4 => ∃ acc, H4 D = some (.lst acc) ∧ acc.length < sizeLine ∧ Nx (upd H4 D (.lst (acc ++ [y]))) else Nx H3)
def kItl (K : PySem.W.Frag) (R : It → Hp → Prop) : VK := fun x H1 => ∃ a, x = .ref a ∧ (∃ xs, SqL K H1 a xs) ∧ R (Itl K a) H1
def kRng1 (R : It → Hp → Prop) : List V → Hp → Prop := fun vs H1 => ∃ j : Int, vs = [.int j] ∧ -(2 ^ 62) ≤ j ∧ j < 2 ^ 62 ∧ R (Itr 0 j.toNat) H1
def kRng2 (R : It → Hp → Prop) : List V → Hp → Prop := fun vs H1 => ∃ i j : Int, vs = [.int i, .int j] ∧ (-(2 ^ 62) ≤ i ∧ i < 2 ^ 62 ∧ -(2 ^ 62) ≤ j ∧ j < 2 ^ 62) ∧ R (Itr i (j - i).toNat) H1
def kZip (K : PySem.W.Frag) (R : It → Hp → Prop) : List V → Hp → Prop := fun vs H1 => ∃ a b xs ys, vs = [.ref a, .ref b] ∧ SqL K H1 a xs ∧ SqL K H1 b ys ∧ R (Itz K a b) H1
def kIts (R : It → Hp → Prop) : VK := fun v H1 => ∃ x, v = .str x ∧ R (Its x) H1
def kItk (R : It → Hp → Prop) : VK := fun x H1 => ∃ d o, x = .ref d ∧ ((∃ kvs, H1 d = some (.frz o (.dK kvs)) ∧ R (Itk d o kvs) H1) ∨ ∃ kvs, H1 d = some (.frz o (.dT kvs)) ∧ R (Itkt d o kvs) H1)
def kRgl (Q : VK) : Int → Int → Hp → Prop := fun a b H1 => RgOk a b ∧ ∀ q, H1 q = none → Q (.ref q) (upd H1 q (.lst (rgV a b)))
section
variable {K : PySem.W.Frag} {σ : L2.St} {H : Hp} {Q : VK} {D : Ends} {tl te : TE} {ta : TA} {tt : TT} {tb : TS} {g : TG} {R : It → Hp → Prop} {vs : List Nat} {wi : TI}
theorem r_for (h : wi σ H (kFor g tb D σ)) : tFor wi g tb D σ H := h
theorem r_lc (h : wi σ H (kLc g tt te vs σ Q)) : tLc wi g tt te vs σ H Q := h
theorem r_iList (h : tl σ H (kItl K R)) : iList K tl σ H R := h
theorem r_iRng1 (h : ta σ H (kRng1 R)) : iRng1 ta σ H R := h
theorem r_iRng2 (h : ta σ H (kRng2 R)) : iRng2 ta σ H R := h
theorem r_iZip (h : ta σ H (kZip K R)) : iZip K ta σ H R := h
theorem r_iStr (h : te σ H (kIts R)) : iStr te σ H R := h
theorem r_iKeys (h : te σ H (kItk R)) : iKeys te σ H R := h
theorem r_lstRg {tr : St → Hp → (Int → Int → Hp → Prop) → Prop} (h : tr σ H (kRgl Q)) : tLstRg tr σ H Q := h
theorem k_itl {a : Addr} {xs : List V} (h : SqL K H a xs) (q : R (Itl K a) H) : kItl K R (.ref a) H := ⟨a, rfl, ⟨xs, h⟩, q⟩
theorem k_rng1 {j : Int} (h : -(2 ^ 62) ≤ j ∧ j < 2 ^ 62) (q : R (Itr 0 j.toNat) H) : kRng1 R [.int j] H := ⟨j, rfl, h.1, h.2, q⟩
theorem k_rng2 {i j : Int} (h : -(2 ^ 62) ≤ i ∧ i < 2 ^ 62 ∧ -(2 ^ 62) ≤ j ∧ j < 2 ^ 62) (q : R (Itr i (j - i).toNat) H) : kRng2 R [.int i, .int j] H := ⟨i, j, rfl, h, q⟩
theorem k_zip {a b : Addr} {xs ys : List V} (h1 : SqL K H a xs) (h2 : SqL K H b ys) (q : R (Itz K a b) H) : kZip K R [.ref a, .ref b] H := ⟨a, b, xs, ys, rfl, h1, h2, q⟩
theorem k_its {x : Str} (q : R (Its x) H) : kIts R (.str x) H := ⟨x, rfl, q⟩
theorem k_itk {d : Addr} {o : Obj} {kvs : List (Key × V)} (h : H d = some (.frz o (.dK kvs))) (q : R (Itk d o kvs) H) : kItk R (.ref d) H := ⟨d, o, rfl, .inl ⟨kvs, h, q⟩⟩
/-! ### loops by an invariant over (turn, slots, heap) -/
theorem k_forL {a : Addr} {xs : List V} {j : Nat} (Pv : Nat → L2.St → Hp → Prop) (h0 : Pv 0 σ H) (hl : ∀ i σ H, i ≤ xs.length → Pv i σ H → SqL K H a xs)
    (turn : ∀ i x σ' H', xs[i]? = some x → Pv i σ' H' → tb { D with nx := Pv (i + 1), ct := Pv (i + 1), bk := D.nx } (σ'.set j (some x)) H') (done : ∀ σ' H', Pv xs.length σ' H' → D.nx σ' H') : kFor (gName j) tb D σ (Itl K a) H :=
  for_it walk_list Pv h0 hl (fun i x σ' H1 H2 hi p y => by
    obtain ⟨e, y⟩ := y
    subst e
    exact turn i x σ' _ y p) done
/-- over a list whose items go into several names -/
theorem k_forLg {a : Addr} {xs : List V} (Pv : Nat → L2.St → Hp → Prop) (h0 : Pv 0 σ H) (hl : ∀ i σ H, i ≤ xs.length → Pv i σ H → SqL K H a xs)
    (turn : ∀ i x σ' H', xs[i]? = some x → Pv i σ' H' → g x σ' H' fun σ2 H2 => tb { D with nx := Pv (i + 1), ct := Pv (i + 1), bk := D.nx } σ2 H2) (done : ∀ σ' H', Pv xs.length σ' H' → D.nx σ' H') : kFor g tb D σ (Itl K a) H :=
  for_it walk_list Pv h0 hl (fun i x σ' H1 H2 hi p y => by
    obtain ⟨e, y⟩ := y
    subst e
    exact turn i x σ' _ y p) done
theorem k_forR {lo : Int} {n j : Nat} (Pv : Nat → L2.St → Hp → Prop) (h0 : Pv 0 σ H)
    (turn : ∀ (i : Nat) σ' H', i < n → Pv i σ' H' → tb { D with nx := Pv (i + 1), ct := Pv (i + 1), bk := D.nx } (σ'.set j (some (.int (lo + (i : Int))))) H') (done : ∀ σ' H', Pv n σ' H' → D.nx σ' H') : kFor (gName j) tb D σ (Itr lo n) H :=
  for_it walk_range Pv h0 (fun _ _ _ _ _ => trivial) (fun i x σ' H1 H2 hi p y => by
    obtain ⟨e, y⟩ := y
    subst e
    subst y
    exact turn i σ' _ hi p) done
theorem k_forS {z : Str} {j : Nat} (Pv : Nat → L2.St → Hp → Prop) (h0 : Pv 0 σ H)
    (turn : ∀ (i : Nat) c σ' H', z.cps[i]? = some c → Pv i σ' H' → tb { D with nx := Pv (i + 1), ct := Pv (i + 1), bk := D.nx } (σ'.set j (some (.str ⟨#[c]⟩))) H') (done : ∀ σ' H', Pv z.cps.size σ' H' → D.nx σ' H') : kFor (gName j) tb D σ (Its z) H :=
  for_it walk_str Pv h0 (fun _ _ _ _ _ => trivial) (fun i x σ' H1 H2 hi p y => by
    obtain ⟨e, c, hc, y⟩ := y
    subst e
    subst y
    exact turn i c σ' _ hc p) done
theorem k_forK {d : Addr} {o : Obj} {kvs : List (Key × V)} {j : Nat} (Pv : Nat → L2.St → Hp → Prop) (h0 : Pv 0 σ H) (hl : ∀ i σ H, i ≤ kvs.length → Pv i σ H → H d = some (.frz o (.dK kvs)))
    (turn : ∀ (i : Nat) k v σ' H', kvs[i]? = some (k, v) → Pv i σ' H' → tb { D with nx := Pv (i + 1), ct := Pv (i + 1), bk := D.nx } (σ'.set j (some (kV k))) H') (done : ∀ σ' H', Pv kvs.length σ' H' → D.nx σ' H') : kFor (gName j) tb D σ (Itk d o kvs) H :=
  for_it walk_keys Pv h0 hl (fun i x σ' H1 H2 hi p y => by
    obtain ⟨e, k, v, hk, y⟩ := y
    subst e
    subst y
    exact turn i k v σ' _ hk p) done
/-- a pair's target: two names -/
theorem g_two {i j T : Nat} {x y : V} {N : L2.St → Hp → Prop} (h : H T = some (.tup [x, y])) (q : N ((σ.set i (some x)).set j (some y)) H) : gTup K 2 (gCons (gName i) (gCons (gName j) gNil)) (.ref T) σ H N :=
  ⟨T, [x, y], rfl, SqT.of h, rfl, x, [y], rfl, y, [], rfl, rfl, q⟩
/-- for x, y in zip(..): the pair at T is new -/
theorem k_forZ {a b : Addr} {xs ys : List V} {i1 i2 n : Nat} (hn : n = min xs.length ys.length) (Pv : Nat → L2.St → Hp → Prop) (h0 : Pv 0 σ H) (hl : ∀ i σ H, i ≤ n → Pv i σ H → SqL K H a xs ∧ SqL K H b ys)
    (turn : ∀ (i : Nat) x y σ' H' H2, xs[i]? = some x → ys[i]? = some y → Pv i σ' H' → Ext H' H2 → tb { D with nx := Pv (i + 1), ct := Pv (i + 1), bk := D.nx } ((σ'.set i1 (some x)).set i2 (some y)) H2) (done : ∀ σ' H', Pv n σ' H' → D.nx σ' H') :
    kFor (gTup K 2 (gCons (gName i1) (gCons (gName i2) gNil))) tb D σ (Itz K a b) H :=
  for_it (walk_zip hn) Pv h0 hl (fun i x σ' H1 H2 hi p y => by
    obtain ⟨T, u, v, e, hT, eH, hu, hv⟩ := y
    subst e
    subst eH
    exact g_two upd_same (turn i u v σ' _ _ hu hv p (ext_new hT))) done
theorem r_while {c : TT} (Pv : Nat → L2.St → Hp → Prop) {m0 : Nat} (h0 : Pv m0 σ H)
    (turn : ∀ m σ' H', Pv m σ' H' → c σ' H' (kIf tb (fun D σ H => D.bk σ H) { D with nx := fun σ2 H2 => ∃ m', m' < m ∧ Pv m' σ2 H2, ct := fun σ2 H2 => ∃ m', m' < m ∧ Pv m' σ2 H2, bk := D.nx } σ')) 
    (mono : ∀ σ H (Q Q' : Bool → Hp → Prop), (∀ b H1, Q b H1 → Q' b H1) → c σ H Q → c σ H Q') : tWhile c tb D σ H := by
  refine ⟨Pv, ⟨m0, h0⟩, fun m σ' H' p => ?_⟩
  refine mono σ' H' _ _ (fun b H1 q => ?_) (turn m σ' H' p)
  cases b with
  | true => exact ⟨_, fun σ2 H2 z => z, q⟩
  | false => exact q
/-! ### comprehensions -/
/-- every tuple stands -/
structure TupE (H H' : Hp) : Prop where
  g : ∀ a xs, H a = some (.tup xs) → H' a = some (.tup xs)
theorem Ext.tup {H H' : Hp} (e : Ext H H') : TupE H H' := ⟨fun a xs h => e.g a _ h⟩
theorem Ac.tup {H H' : Hp} (e : Ac H H') : TupE H H' := ⟨fun a xs h => e.g a _ h⟩
theorem But.tupL {H H' : Hp} {D : Addr} {acc : List V} (e : But [D] H H') (h : H D = some (.lst acc)) : TupE H H' := ⟨fun a xs ha => e.g a _ ha (fun z => by
  have z' : a = D := by simpa using z
  rw [z', h] at ha
  cases ha)⟩
/-- the general rule: as, the items by their values inj; kept where p; the element's value v stands for G x by R -/
theorem lc_gen {α β : Type} {J : It} {Gd : Hp → Prop} (as : List α) (inj : α → V) (p : α → Bool) (G : α → β) (Rr : Hp → V → β → Prop) {j : Nat}
    (w : Walk J as.length Gd (YAt (as.map inj))) (hG : ∀ H', Ac H H' → Gd H') (mono : ∀ H1 H2 v b, TupE H1 H2 → Rr H1 v b → Rr H2 v b) (hw : ∀ x, wipe ((wipe σ vs).set j (some x)) vs = wipe σ vs) (hlen : as.length ≤ 100000)
    (turn : ∀ x ∈ as, ∀ H1, Ac H H1 → ∀ QB : Bool → Hp → Prop, (∀ H2, Ext H1 H2 → QB (p x) H2) → tt ((wipe σ vs).set j (some (inj x))) H1 QB)
    (elt : ∀ x ∈ as, p x = true → ∀ H1, Ac H H1 → ∀ Q1 : VK, (∀ v H2, Ext H1 H2 → Rr H2 v (G x) → Q1 v H2) → te ((wipe σ vs).set j (some (inj x))) H1 Q1)
    (fin : ∀ D ws H', H D = none → Ext H H' → H' D = some (.lst ws) → Paired (Rr H') ws ((as.filter p).map G) → Q (.ref D) H') : kLc (gName j) tt te vs σ Q J H := by
  intro D hD
  refine lc_it w (fun i H' => Ac H H' ∧ ∃ ws, H' D = some (.lst ws) ∧ ws.length ≤ i ∧ Paired (Rr H') ws (((as.take i).filter p).map G)) ?_ (fun i H' _ q => hG H' q.1) ?_ ?_
  · refine ⟨(ext_new hD).ac, [], upd_same, Nat.le_refl _, ?_⟩
    rw [List.take_zero]
    exact .nil
  · rintro i x H1 H2 hi ⟨ac, ws, hws, hl, pr⟩ ⟨e, hx⟩
    subst e
    rw [List.getElem?_map] at hx
    have hi' : as[i]? = some as[i] := by simp [hi]
    rw [hi'] at hx
    have ex : inj as[i] = x := Option.some.inj hx
    subst ex
    have hm : as[i] ∈ as := List.getElem_mem hi
    refine ⟨hw _, turn _ hm H2 ac _ fun H3 e3 => ?_⟩
    have et : as.take (i + 1) = as.take i ++ [as[i]] := by rw [List.take_succ_eq_append_getElem hi]
    by_cases hp : p as[i] = true
    · rw [if_pos hp]
      refine elt _ hm hp H3 (ac.step e3) _ fun v H4 e4 hv => ⟨ws, e4.g _ _ (e3.g _ _ hws), sz_lt (by omega), ((ac.step e3).step e4).but but_upd (frs_cons hD frs_nil), ws ++ [v], upd_same, by rw [List.length_append]; show ws.length + 1 ≤ i + 1; omega, ?_⟩
      have tu : TupE H4 (upd H4 D (.lst (ws ++ [v]))) := But.tupL but_upd (e4.g _ _ (e3.g _ _ hws))
      rw [et, List.filter_append, List.map_append, List.filter_cons, if_pos hp]
      exact Paired.snoc (Paired.mono (fun a b h => mono _ _ a b tu (mono _ _ a b e4.tup (mono _ _ a b e3.tup h))) pr) (mono _ _ _ _ tu hv)
    · rw [if_neg hp]
      refine ⟨ac.step e3, ws, e3.g _ _ hws, by omega, ?_⟩
      rw [et, List.filter_append, List.map_append, List.filter_cons, if_neg hp]
      show Paired _ _ (_ ++ [])
      rw [List.append_nil]
      exact Paired.mono (fun a b h => mono _ _ a b e3.tup h) pr
  · rintro H' ⟨ac, ws, hws, _, pr⟩
    rw [List.take_length] at pr
    exact fin D ws H' hD ac.ext hws pr
theorem walk_rangeA {lo : Int} {n : Nat} : Walk (Itr lo n) (List.range n).length (fun _ => True) (YAt ((List.range n).map fun (i : Nat) => V.int (lo + (i : Int)))) := by
  rw [List.length_range]
  refine Walk.mono walk_range (fun _ h => h) fun i H x H' hi _ y => ?_
  obtain ⟨e, y⟩ := y
  refine ⟨e, ?_⟩
  subst y
  rw [List.getElem?_map, List.getElem?_range hi]
  rfl
theorem walk_listA {α : Type} {a : Addr} {as : List α} {inj : α → V} : Walk (Itl K a) as.length (fun H => SqL K H a (as.map inj)) (YAt (as.map inj)) := by
  have h := walk_list (K := K) (a := a) (xs := as.map inj)
  rw [List.length_map] at h
  exact h
theorem paired_eq {α β : Type} {f : β → α} : ∀ {xs : List α} {ys : List β}, Paired (fun a b => a = f b) xs ys → xs = ys.map f
  | _, _, .nil => rfl
  | _, _, .cons h t => by
    rw [h, paired_eq t]
    rfl
/-- a list's comprehension, the elements values -/
theorem k_lcL {α : Type} (as : List α) (inj : α → V) (p : α → Bool) (G : α → V) {a : Addr} {j : Nat} (hs : SqL K H a (as.map inj)) (hw : ∀ x, wipe ((wipe σ vs).set j (some x)) vs = wipe σ vs) (hlen : as.length ≤ 100000)
    (turn : ∀ x ∈ as, ∀ H1, Ac H H1 → ∀ QB : Bool → Hp → Prop, (∀ H2, Ext H1 H2 → QB (p x) H2) → tt ((wipe σ vs).set j (some (inj x))) H1 QB)
    (elt : ∀ x ∈ as, p x = true → ∀ H1, Ac H H1 → ∀ Q1 : VK, (∀ H2, Ext H1 H2 → Q1 (G x) H2) → te ((wipe σ vs).set j (some (inj x))) H1 Q1)
    (fin : ∀ D H', H D = none → Ext H H' → H' D = some (.lst ((as.filter p).map G)) → Q (.ref D) H') : kLc (gName j) tt te vs σ Q (Itl K a) H :=
  lc_gen as inj p G (fun _ v b => v = b) walk_listA (fun H' e => e.sq hs) (fun _ _ _ _ _ h => h) hw hlen turn (fun x hx hp H1 e Q1 q => elt x hx hp H1 e Q1 fun H2 e2 => q _ H2 e2 rfl)
    (fun D ws H' hD e hws pr => fin D H' hD e (by rw [hws, paired_eq (f := fun v => v) pr, List.map_id']))
theorem k_lcR {lo : Int} {n : Nat} (p : Nat → Bool) (G : Nat → V) {j : Nat} (hw : ∀ x, wipe ((wipe σ vs).set j (some x)) vs = wipe σ vs) (hlen : n ≤ 100000)
    (turn : ∀ (i : Nat), i < n → ∀ H1, Ac H H1 → ∀ QB : Bool → Hp → Prop, (∀ H2, Ext H1 H2 → QB (p i) H2) → tt ((wipe σ vs).set j (some (.int (lo + (i : Int))))) H1 QB)
    (elt : ∀ (i : Nat), i < n → p i = true → ∀ H1, Ac H H1 → ∀ Q1 : VK, (∀ H2, Ext H1 H2 → Q1 (G i) H2) → te ((wipe σ vs).set j (some (.int (lo + (i : Int))))) H1 Q1)
    (fin : ∀ D H', H D = none → Ext H H' → H' D = some (.lst (((List.range n).filter p).map G)) → Q (.ref D) H') : kLc (gName j) tt te vs σ Q (Itr lo n) H :=
  lc_gen (List.range n) (fun i => V.int (lo + (i : Int))) p G (fun _ v b => v = b) walk_rangeA (fun _ _ => trivial) (fun _ _ _ _ _ h => h) hw (by rw [List.length_range]; exact hlen) (fun x hx => turn x (List.mem_range.mp hx))
    (fun x hx hp H1 e Q1 q => elt x (List.mem_range.mp hx) hp H1 e Q1 fun H2 e2 => q _ H2 e2 rfl)
    (fun D ws H' hD e hws pr => fin D H' hD e (by rw [hws, paired_eq (f := fun v => v) pr, List.map_id']))
/-- .. the elements by a relation that leans on tuples alone -/
theorem k_lcLr {α β : Type} (as : List α) (inj : α → V) (p : α → Bool) (G : α → β) (Rr : Hp → V → β → Prop) {a : Addr} {j : Nat} (hs : SqL K H a (as.map inj)) (mono : ∀ H1 H2 v b, TupE H1 H2 → Rr H1 v b → Rr H2 v b) (hw : ∀ x, wipe ((wipe σ vs).set j (some x)) vs = wipe σ vs) (hlen : as.length ≤ 100000)
    (turn : ∀ x ∈ as, ∀ H1, Ac H H1 → ∀ QB : Bool → Hp → Prop, (∀ H2, Ext H1 H2 → QB (p x) H2) → tt ((wipe σ vs).set j (some (inj x))) H1 QB)
    (elt : ∀ x ∈ as, p x = true → ∀ H1, Ac H H1 → ∀ Q1 : VK, (∀ v H2, Ext H1 H2 → Rr H2 v (G x) → Q1 v H2) → te ((wipe σ vs).set j (some (inj x))) H1 Q1)
    (fin : ∀ D ws H', H D = none → Ext H H' → H' D = some (.lst ws) → Paired (Rr H') ws ((as.filter p).map G) → Q (.ref D) H') : kLc (gName j) tt te vs σ Q (Itl K a) H :=
  lc_gen as inj p G Rr walk_listA (fun H' e => e.sq hs) mono hw hlen turn elt fin
/-- any target: by the place -/
theorem lc_genG {β : Type} {J : It} {n : Nat} {Gd : Hp → Prop} {Y : Nat → Hp → V → Hp → Prop} (w : Walk J n Gd Y) (p : Nat → Bool) (G : Nat → β) (Rr : Hp → V → β → Prop) (hG : ∀ H', Ac H H' → Gd H') (mono : ∀ H1 H2 v b, TupE H1 H2 → Rr H1 v b → Rr H2 v b) (hlen : n ≤ 100000)
    (turn : ∀ i x H1 H2, i < n → Ac H H1 → Y i H1 x H2 → ∃ σ2 H3, Ext H1 H3 ∧ wipe σ2 vs = wipe σ vs ∧ (∀ N : L2.St → Hp → Prop, N σ2 H3 → g x (wipe σ vs) H2 N) ∧ (∀ QB : Bool → Hp → Prop, (∀ H4, Ext H3 H4 → QB (p i) H4) → tt σ2 H3 QB) ∧
      (p i = true → ∀ H4, Ext H3 H4 → ∀ Q1 : VK, (∀ v H5, Ext H4 H5 → Rr H5 v (G i) → Q1 v H5) → te σ2 H4 Q1))
    (fin : ∀ D ws H', H D = none → Ext H H' → H' D = some (.lst ws) → Paired (Rr H') ws (((List.range n).filter p).map G) → Q (.ref D) H') : kLc g tt te vs σ Q J H := by
  intro D hD
  refine lc_it w (fun i H' => Ac H H' ∧ ∃ ws, H' D = some (.lst ws) ∧ ws.length ≤ i ∧ Paired (Rr H') ws (((List.range i).filter p).map G)) ?_ (fun i H' _ q => hG H' q.1) ?_ ?_
  · exact ⟨(ext_new hD).ac, [], upd_same, Nat.le_refl _, .nil⟩
  · rintro i x H1 H2 hi ⟨ac, ws, hws, hl, pr⟩ y
    obtain ⟨σ2, H3, e3, hw, gN, ht, he⟩ := turn i x H1 H2 hi ac y
    refine gN _ ⟨hw, ht _ fun H4 e4 => ?_⟩
    have ac4 := (ac.step e3).step e4
    have h4 := e4.g _ _ (e3.g _ _ hws)
    by_cases hp : p i = true
    · rw [if_pos hp]
      refine he hp H4 e4 _ fun v H5 e5 hv => ⟨ws, e5.g _ _ h4, sz_lt (by omega), (ac4.step e5).but but_upd (frs_cons hD frs_nil), ws ++ [v], upd_same, by rw [List.length_append]; show ws.length + 1 ≤ i + 1; omega, ?_⟩
      have tu : TupE H5 (upd H5 D (.lst (ws ++ [v]))) := But.tupL but_upd (e5.g _ _ h4)
      rw [List.range_succ, List.filter_append, List.map_append, List.filter_cons, if_pos hp]
      exact Paired.snoc (Paired.mono (fun a b h => mono _ _ a b tu (mono _ _ a b e5.tup (mono _ _ a b e4.tup (mono _ _ a b e3.tup h)))) pr) (mono _ _ _ _ tu hv)
    · rw [if_neg hp]
      refine ⟨ac4, ws, h4, by omega, ?_⟩
      rw [List.range_succ, List.filter_append, List.map_append, List.filter_cons, if_neg hp]
      show Paired _ _ (_ ++ [])
      rw [List.append_nil]
      exact Paired.mono (fun a b h => mono _ _ a b e4.tup (mono _ _ a b e3.tup h)) pr
  · rintro H' ⟨ac, ws, hws, _, pr⟩
    exact fin D ws H' hD ac.ext hws pr
/-- [e for x, y in zip(..)] -/
theorem k_lcZr {β : Type} {a b : Addr} {xs ys : List V} {n i1 i2 : Nat} (h1 : SqL K H a xs) (h2 : SqL K H b ys) (l1 : xs.length = n) (l2 : ys.length = n) (G : Nat → β) (Rr : Hp → V → β → Prop) (mono : ∀ H1 H2 v b, TupE H1 H2 → Rr H1 v b → Rr H2 v b) (hw : ∀ x y, wipe (((wipe σ vs).set i1 (some x)).set i2 (some y)) vs = wipe σ vs) (hlen : n ≤ 100000)
    (elt : ∀ i x y, xs[i]? = some x → ys[i]? = some y → ∀ H1, Ac H H1 → ∀ Q1 : VK, (∀ v H2, Ext H1 H2 → Rr H2 v (G i) → Q1 v H2) → te (((wipe σ vs).set i1 (some x)).set i2 (some y)) H1 Q1)
    (fin : ∀ D ws H', H D = none → Ext H H' → H' D = some (.lst ws) → Paired (Rr H') ws ((List.range n).map G) → Q (.ref D) H') : kLc (gTup K 2 (gCons (gName i1) (gCons (gName i2) gNil))) tYes te vs σ Q (Itz K a b) H := by
  refine lc_genG (walk_zip (n := n) (by rw [l1, l2]; omega)) (fun _ => true) G Rr (fun H' e => ⟨e.sq h1, e.sq h2⟩) mono hlen (fun i x H1 H2 hi ac y => ?_) (fun D ws H' hD e hws pr => fin D ws H' hD e hws ?_)
  · obtain ⟨T, u, v, e, hT, eH, hu, hv⟩ := y
    subst e
    subst eH
    exact ⟨_, _, ext_new hT, hw u v, fun N q => g_two upd_same q, fun QB q => q _ (Ext.refl _), fun _ H4 e4 Q1 q => elt i u v hu hv H4 (ac.step ((ext_new hT).trans e4)) Q1 q⟩
  · have : (List.range n).filter (fun _ => true) = List.range n := List.filter_eq_self.mpr fun _ _ => rfl
    rw [this] at pr
    exact pr
theorem k_lcZ {a b : Addr} {xs ys : List V} {n i1 i2 : Nat} (h1 : SqL K H a xs) (h2 : SqL K H b ys) (l1 : xs.length = n) (l2 : ys.length = n) (G : Nat → V) (hw : ∀ x y, wipe (((wipe σ vs).set i1 (some x)).set i2 (some y)) vs = wipe σ vs) (hlen : n ≤ 100000)
    (elt : ∀ i x y, xs[i]? = some x → ys[i]? = some y → ∀ H1, Ac H H1 → ∀ Q1 : VK, (∀ H2, Ext H1 H2 → Q1 (G i) H2) → te (((wipe σ vs).set i1 (some x)).set i2 (some y)) H1 Q1)
    (fin : ∀ D H', H D = none → Ext H H' → H' D = some (.lst ((List.range n).map G)) → Q (.ref D) H') : kLc (gTup K 2 (gCons (gName i1) (gCons (gName i2) gNil))) tYes te vs σ Q (Itz K a b) H :=
  k_lcZr h1 h2 l1 l2 G (fun _ v b => v = b) (fun _ _ _ _ _ h => h) hw hlen (fun i x y hx hy H1 ac Q1 q => elt i x y hx hy H1 ac Q1 fun H2 e2 => q _ H2 e2 rfl)
    (fun D ws H' hD e hws pr => fin D H' hD e (by rw [hws, paired_eq (f := fun v => v) pr, List.map_id']))
theorem paired_map {α β : Type} {F : α → β → Prop} : ∀ {xs : List α} {ys : List β}, Paired F xs ys → ∀ {γ : Type} (f : α → γ) (g : β → γ), (∀ a b, F a b → f a = g b) → xs.map f = ys.map g
  | _, _, .nil, _, _, _, _ => rfl
  | _, _, .cons r t, _, f, g, h => by rw [List.map_cons, List.map_cons, h _ _ r, paired_map t f g h]
theorem paired_mem {α β : Type} {F : α → β → Prop} : ∀ {xs : List α} {ys : List β}, Paired F xs ys → ∀ a, a ∈ xs → ∃ b, b ∈ ys ∧ F a b
  | _, _, .nil, _, h => by cases h
  | _, _, .cons r t, a, h => by
    rcases List.mem_cons.mp h with e | h
    · subst e
      exact ⟨_, List.mem_cons_self, r⟩
    · obtain ⟨b, hb, q⟩ := paired_mem t a h
      exact ⟨b, List.mem_cons_of_mem _ hb, q⟩
theorem paired_len {α β : Type} {F : α → β → Prop} : ∀ {xs : List α} {ys : List β}, Paired F xs ys → xs.length = ys.length
  | _, _, .nil => rfl
  | _, _, .cons _ t => by rw [List.length_cons, List.length_cons, paired_len t]
theorem paired_at {α β : Type} {F : α → β → Prop} : ∀ {xs : List α} {ys : List β}, Paired F xs ys → ∀ (i : Nat) a, xs[i]? = some a → ∃ b, ys[i]? = some b ∧ F a b
  | _, _, .nil, i, a, h => by simp at h
  | _, _, .cons r t, 0, a, h => by
    cases h
    exact ⟨_, rfl, r⟩
  | _, _, .cons r t, i + 1, a, h => paired_at t i a h
theorem paired_ta {α β : Type} {F : α → β → Prop} : ∀ {xs : List α} {ys : List β}, Paired F xs ys → ∀ (i : Nat) b, ys[i]? = some b → ∃ a, xs[i]? = some a ∧ F a b
  | _, _, .nil, i, a, h => by simp at h
  | _, _, .cons r t, 0, a, h => by
    cases h
    exact ⟨_, rfl, r⟩
  | _, _, .cons r t, i + 1, a, h => paired_ta t i a h
theorem paired_zip {α β : Type} {F : α → β → Prop} : ∀ {xs : List α} {ys : List β}, Paired F xs ys → (xs.zip ys).map Prod.fst = xs ∧ (xs.zip ys).map Prod.snd = ys ∧ ∀ q ∈ xs.zip ys, F q.1 q.2 ∧ q.2 ∈ ys
  | _, _, .nil => ⟨rfl, rfl, fun _ h => by cases h⟩
  | _, _, .cons (a := a) (b := b) (l₁ := l1) (l₂ := l2) r t => by
    obtain ⟨h1, h2, h3⟩ := paired_zip t
    refine ⟨?_, ?_, fun q hq => ?_⟩
    · show a :: (l1.zip l2).map Prod.fst = a :: l1
      rw [h1]
    · show b :: (l1.zip l2).map Prod.snd = b :: l2
      rw [h2]
    · rcases List.mem_cons.mp hq with e | hq
      · subst e
        exact ⟨r, List.mem_cons_self⟩
      · exact ⟨(h3 q hq).1, List.mem_cons_of_mem _ (h3 q hq).2⟩
theorem filter_snd {α β : Type} (p : β → Bool) : ∀ (l : List (α × β)), (l.filter fun q => p q.2).map Prod.snd = (l.map Prod.snd).filter p
  | [] => rfl
  | q :: l => by
    rw [List.map_cons, List.filter_cons, List.filter_cons]
    by_cases h : p q.2 = true
    · rw [if_pos h, if_pos h, List.map_cons, filter_snd p l]
    · rw [if_neg h, if_neg h, filter_snd p l]
/-- over a list whose items stand for bs -/
theorem k_lcP {β γ : Type} {a : Addr} {xs : List V} {bs : List β} {Rr : V → β → Prop} {Ro : Hp → V → γ → Prop} {j : Nat} (p : β → Bool) (G : β → γ) (hs : SqL K H a xs) (pr : Paired Rr xs bs) (mono : ∀ H1 H2 v b, TupE H1 H2 → Ro H1 v b → Ro H2 v b) (hw : ∀ x, wipe ((wipe σ vs).set j (some x)) vs = wipe σ vs) (hlen : xs.length ≤ 100000)
    (turn : ∀ v b, b ∈ bs → Rr v b → ∀ H1, Ac H H1 → ∀ QB : Bool → Hp → Prop, (∀ H2, Ext H1 H2 → QB (p b) H2) → tt ((wipe σ vs).set j (some v)) H1 QB)
    (elt : ∀ v b, b ∈ bs → Rr v b → p b = true → ∀ H1, Ac H H1 → ∀ Q1 : VK, (∀ v' H2, Ext H1 H2 → Ro H2 v' (G b) → Q1 v' H2) → te ((wipe σ vs).set j (some v)) H1 Q1)
    (fin : ∀ D ws H', H D = none → Ext H H' → H' D = some (.lst ws) → Paired (Ro H') ws ((bs.filter p).map G) → Q (.ref D) H') : kLc (gName j) tt te vs σ Q (Itl K a) H := by
  obtain ⟨z1, z2, z3⟩ := paired_zip pr
  have hl : (xs.zip bs).length = xs.length := by
    have := congrArg List.length z1
    rw [List.length_map] at this
    exact this
  refine k_lcLr (xs.zip bs) Prod.fst (fun q => p q.2) (fun q => G q.2) Ro (by rw [z1]; exact hs) mono hw (by rw [hl]; exact hlen) (fun q hq => turn q.1 q.2 (z3 q hq).2 (z3 q hq).1) (fun q hq => elt q.1 q.2 (z3 q hq).2 (z3 q hq).1) (fun D ws H' hD e hws pr' => fin D ws H' hD e hws ?_)
  rw [← z2, ← filter_snd, List.map_map]
  exact pr'
theorem r_yes {QB : Bool → Hp → Prop} (q : QB true H) : tYes σ H QB := q
theorem filter_yes {α : Type} (l : List α) : l.filter (fun _ => true) = l := by
  induction l with
  | nil => rfl
  | cons a l ih => rw [List.filter_cons, if_pos rfl, ih]
end
/-! ### tests by their propositions -/
section
variable {K : PySem.W.Frag} {σ : L2.St} {H : Hp} {Q : VK} {QB : Bool → Hp → Prop} {D : Ends} {ta tb tc : TE} {u : TT} {s1 s2 : TS} {p : Prop} [Decidable p] {r' : R2} {y : V}
theorem k_ifD (h1 : p → s1 D σ H) (h2 : ¬ p → s2 D σ H) : kIf s1 s2 D σ (decide p) H := k_if (fun e => h1 (of_decide_eq_true e)) (fun e => h2 (of_decide_eq_false e))
theorem k_ifN (h1 : ¬ p → s1 D σ H) (h2 : p → s2 D σ H) : kIf s1 s2 D σ (!decide p) H := k_if (fun e => h1 (of_decide_eq_false (by simpa using e))) (fun e => h2 (of_decide_eq_true (by simpa using e)))
theorem k_ifNN (h1 : p → s1 D σ H) (h2 : ¬ p → s2 D σ H) : kIf s1 s2 D σ (!!decide p) H := by
  rw [Bool.not_not]
  exact k_ifD h1 h2
theorem k_chainD (h1 : p → tc σ H fun w' H4 => r' y w' H4 Q) (h2 : ¬ p → Q (.bl false) H) : kChain r' tc σ y Q (.bl (decide p)) H := k_chain (fun e => h1 (of_decide_eq_true e)) (fun e => h2 (of_decide_eq_false e))
theorem k_andD (h1 : p → u σ H QB) (h2 : ¬ p → QB false H) : kAnd u σ QB (decide p) H := k_and (fun e => h1 (of_decide_eq_true e)) (fun e => h2 (of_decide_eq_false e))
theorem k_andN (h1 : ¬ p → u σ H QB) (h2 : p → QB false H) : kAnd u σ QB (!decide p) H := k_and (fun e => h1 (of_decide_eq_false (by simpa using e))) (fun e => h2 (of_decide_eq_true (by simpa using e)))
theorem k_orD (h1 : p → QB true H) (h2 : ¬ p → u σ H QB) : kOr u σ QB (decide p) H := k_or (fun e => h1 (of_decide_eq_true e)) (fun e => h2 (of_decide_eq_false e))
theorem k_orN (h1 : ¬ p → QB true H) (h2 : p → u σ H QB) : kOr u σ QB (!decide p) H := k_or (fun e => h1 (of_decide_eq_false (by simpa using e))) (fun e => h2 (of_decide_eq_true (by simpa using e)))
theorem k_andVD (h1 : p → tb σ H Q) (h2 : ¬ p → Q (.bl false) H) : kAndV tb σ Q (.bl (decide p)) H := k_andV (fun e => h1 (of_decide_eq_true e)) (fun e => h2 (of_decide_eq_false e))
theorem k_andVN (h1 : ¬ p → tb σ H Q) (h2 : p → Q (.bl false) H) : kAndV tb σ Q (.bl (!decide p)) H := k_andV (fun e => h1 (of_decide_eq_false (by simpa using e))) (fun e => h2 (of_decide_eq_true (by simpa using e)))
theorem k_orVD (h1 : p → Q (.bl true) H) (h2 : ¬ p → tb σ H Q) : kOrV tb σ Q (.bl (decide p)) H := k_orV (fun e => h1 (of_decide_eq_true e)) (fun e => h2 (of_decide_eq_false e))
theorem k_ifED (h1 : p → ta σ H Q) (h2 : ¬ p → tb σ H Q) : kIfE ta tb σ Q (decide p) H := k_ifE (fun e => h1 (of_decide_eq_true e)) (fun e => h2 (of_decide_eq_false e))
theorem k_ifTT (h1 : s1 D σ H) : kIf s1 s2 D σ true H := h1
theorem k_ifFF (h1 : s2 D σ H) : kIf s1 s2 D σ false H := h1
theorem k_ifNT (h1 : s2 D σ H) : kIf s1 s2 D σ (!true) H := h1
theorem k_ifNF (h1 : s1 D σ H) : kIf s1 s2 D σ (!false) H := h1
theorem k_ifNNT (h1 : s1 D σ H) : kIf s1 s2 D σ (!!true) H := h1
theorem k_ifNNF (h1 : s2 D σ H) : kIf s1 s2 D σ (!!false) H := h1
theorem k_andNT (h1 : QB false H) : kAnd u σ QB (!true) H := h1
theorem k_andNF (h1 : u σ H QB) : kAnd u σ QB (!false) H := h1
theorem k_orNT (h1 : u σ H QB) : kOr u σ QB (!true) H := h1
theorem k_orNF (h1 : QB true H) : kOr u σ QB (!false) H := h1
theorem k_andVNT (h1 : Q (.bl false) H) : kAndV tb σ Q (.bl (!true)) H := ⟨false, rfl, h1⟩
theorem k_andVNF (h1 : tb σ H Q) : kAndV tb σ Q (.bl (!false)) H := ⟨true, rfl, h1⟩
theorem k_orVNT (h1 : tb σ H Q) : kOrV tb σ Q (.bl (!true)) H := ⟨false, rfl, h1⟩
theorem k_orVNF (h1 : Q (.bl true) H) : kOrV tb σ Q (.bl (!false)) H := ⟨true, rfl, h1⟩
end
/-! ### in a list -/
section
variable {K : PySem.W.Frag} {H : Hp} {Q : VK}
theorem k_inL {x : V} {p : Addr} {xs : List V} (h : SqL K H p xs) (hx : flatV x = true) (hf : xs.all flatV = true) (q : Q (.bl (inV x xs)) H) : rIn K false x (.ref p) H Q := ⟨p, xs, rfl, .inl h, hx, hf, q⟩
theorem k_niL {x : V} {p : Addr} {xs : List V} (h : SqL K H p xs) (hx : flatV x = true) (hf : xs.all flatV = true) (q : Q (.bl (!inV x xs)) H) : rIn K true x (.ref p) H Q := ⟨p, xs, rfl, .inl h, hx, hf, q⟩
theorem all_flat_int (xs : List Int) : (xs.map V.int).all flatV = true := by
  rw [List.all_eq_true]
  intro v hv
  obtain ⟨n, _, rfl⟩ := List.mem_map.mp hv
  rfl
theorem all_flat_str (xs : List Str) : (xs.map V.str).all flatV = true := by
  rw [List.all_eq_true]
  intro v hv
  obtain ⟨n, _, rfl⟩ := List.mem_map.mp hv
  rfl
end
end Rv

section
local macro_rules | `(tactic| lcg_src) => `(tactic| first
  | assumption
  | (with_reducible exact Rv.lk_here)
  | (refine (Rv.lk_past (by decide +kernel)).trans ?_; lcg_src)
  | (with_unfolding_all exact rfl))
local macro_rules | `(tactic| keq_hits) => `(tactic| first
  | assumption
  | ((with_reducible apply Rv.Ext.hl); (focus assumption); (focus keq_hits))
  | ((with_reducible apply Rv.But.hl); (focus assumption); (focus keq_hits); (focus keq_hits))
  | ((with_reducible apply Rv.Ac.hl); (focus assumption); (focus keq_hits))
  | ((with_reducible apply L2.SqL.of); (focus assumption))
  | ((with_reducible apply Rv.Ext.sq); (focus assumption); (focus keq_hits))
  | ((with_reducible apply Rv.But.sq); (focus assumption); (focus keq_hits); (focus keq_hits))
  | ((with_reducible apply Rv.Ac.sq); (focus assumption); (focus keq_hits))
  | ((with_reducible apply L2.SqT.of); (focus assumption))
  | ((with_reducible apply Rv.Ext.st); (focus assumption); (focus keq_hits))
  | ((with_reducible apply Rv.But.st); (focus assumption); (focus keq_hits); (focus keq_hits))
  | ((with_reducible apply Rv.Ac.st); (focus assumption); (focus keq_hits))
  | ((with_reducible apply L2.Rd.of); (focus keq_hits))
  | ((with_reducible apply Rv.RivAt.ext); (focus assumption); (focus keq_hits))
  | ((with_reducible apply Rv.RivAt.but); (focus assumption); (focus keq_hits); (focus keq_hits); (focus keq_hits))
  | ((with_reducible apply Rv.RivAt.ac); (focus assumption); (focus keq_hits))
  | (with_reducible apply Rv.nin_nil)
  | ((with_reducible apply Rv.BokAt.ext); (focus assumption); (focus keq_hits))
  | ((with_reducible apply Rv.DicAt.ne); (focus assumption); (focus assumption); (focus (intro _ z; cases z)))
  | ((with_reducible apply Rv.DicAt.nf); (focus assumption); (focus assumption))
  | ((with_reducible apply Rv.Ext.tup); (focus assumption))
  | ((with_reducible apply Rv.Ac.tup); (focus assumption))
  | ((with_reducible apply Rv.nin_cons); (focus keq_hits); (focus keq_hits))
  | (with_reducible apply Rv.frs_nil)
  | ((with_reducible apply Rv.frs_cons); (focus keq_hits); (focus keq_hits))
  | ((with_reducible apply Ne.symm); (focus assumption))
  | ((with_reducible apply Rv.ne_nf); (focus assumption); (focus assumption))
  | ((with_reducible apply Rv.ne_fn); (focus assumption); (focus assumption))
  | ((with_reducible apply Rv.ne_k1); (focus assumption); (focus assumption); (focus (first | (intro z; cases z; done) | ((with_reducible apply Rv.ins_ne); intro z; cases z; done))))
  | ((with_reducible apply Rv.ne_k2); (focus assumption); (focus assumption); (focus (first | (intro z; cases z; done) | ((with_reducible apply Rv.ins_ne); intro z; cases z; done))))
  | ((with_reducible apply Rv.free2); (focus assumption); (focus assumption))
  | (with_reducible apply Rv.Ac.refl)
  | ((with_reducible apply Rv.Ac.step'); (focus assumption); (focus keq_hits))
  | ((with_reducible apply Rv.Ac.but'); (focus assumption); (focus keq_hits); (focus keq_hits))
  | (with_reducible apply Rv.Ext.refl)
  | ((with_reducible apply Rv.Ac.ext); (focus keq_hits))
  | ((with_reducible apply Rv.sz_le); first | omega | (simp only [List.length_cons, List.length_nil, List.length_map, List.length_append]; omega))
  | ((with_reducible apply Rv.sz_lt); first | omega | (simp only [List.length_cons, List.length_nil, List.length_map, List.length_append]; omega)))
local macro_rules | `(tactic| kln_le) => `(tactic| first
  | assumption
  | ((with_reducible apply Rv.Ext.hl); (focus assumption); (focus kln_le))
  | ((with_reducible apply Rv.But.hl); (focus assumption); (focus kln_le); (focus kln_le))
  | ((with_reducible apply Rv.Ac.hl); (focus assumption); (focus kln_le))
  | ((with_reducible apply L2.SqL.of); (focus assumption))
  | ((with_reducible apply Rv.Ext.sq); (focus assumption); (focus kln_le))
  | ((with_reducible apply Rv.But.sq); (focus assumption); (focus kln_le); (focus kln_le))
  | ((with_reducible apply Rv.Ac.sq); (focus assumption); (focus kln_le))
  | ((with_reducible apply L2.SqT.of); (focus assumption))
  | ((with_reducible apply Rv.Ext.st); (focus assumption); (focus kln_le))
  | ((with_reducible apply Rv.But.st); (focus assumption); (focus kln_le); (focus kln_le))
  | ((with_reducible apply Rv.Ac.st); (focus assumption); (focus kln_le))
  | ((with_reducible apply L2.Rd.of); (focus kln_le))
  | ((with_reducible apply Rv.RivAt.ext); (focus assumption); (focus kln_le))
  | ((with_reducible apply Rv.RivAt.but); (focus assumption); (focus kln_le); (focus kln_le); (focus kln_le))
  | ((with_reducible apply Rv.RivAt.ac); (focus assumption); (focus kln_le))
  | (with_reducible apply Rv.nin_nil)
  | ((with_reducible apply Rv.BokAt.ext); (focus assumption); (focus kln_le))
  | ((with_reducible apply Rv.DicAt.ne); (focus assumption); (focus keq_hits); (focus (intro _ z; cases z)))
  | ((with_reducible apply Rv.DicAt.nf); (focus assumption); (focus keq_hits))
  | ((with_reducible apply Rv.Ext.tup); (focus assumption))
  | ((with_reducible apply Rv.Ac.tup); (focus assumption))
  | ((with_reducible apply Rv.nin_cons); (focus kln_le); (focus kln_le))
  | (with_reducible apply Rv.frs_nil)
  | ((with_reducible apply Rv.frs_cons); (focus kln_le); (focus kln_le))
  | ((with_reducible apply Ne.symm); (focus assumption))
  | ((with_reducible apply Rv.ne_nf); (focus assumption); (focus keq_hits))
  | ((with_reducible apply Rv.ne_fn); (focus assumption); (focus keq_hits))
  | ((with_reducible apply Rv.ne_k1); (focus assumption); (focus keq_hits); (focus (first | (intro z; cases z; done) | ((with_reducible apply Rv.ins_ne); intro z; cases z; done))))
  | ((with_reducible apply Rv.ne_k2); (focus assumption); (focus keq_hits); (focus (first | (intro z; cases z; done) | ((with_reducible apply Rv.ins_ne); intro z; cases z; done))))
  | ((with_reducible apply Rv.free2); (focus assumption); (focus keq_hits))
  | (with_reducible apply Rv.Ac.refl)
  | ((with_reducible apply Rv.Ac.step'); (focus assumption); (focus kln_le))
  | ((with_reducible apply Rv.Ac.but'); (focus assumption); (focus kln_le); (focus kln_le))
  | (with_reducible apply Rv.Ext.refl)
  | ((with_reducible apply Rv.Ac.ext); (focus kln_le))
  | ((with_reducible apply Rv.sz_le); first | omega | (simp only [List.length_cons, List.length_nil, List.length_map, List.length_append]; omega))
  | ((with_reducible apply Rv.sz_lt); first | omega | (simp only [List.length_cons, List.length_nil, List.length_map, List.length_append]; omega)))
local macro_rules | `(tactic| lcg_sub) => `(tactic| first
  | assumption
  | ((with_reducible apply Rv.Ext.hl); (focus assumption); (focus lcg_sub))
  | ((with_reducible apply Rv.But.hl); (focus assumption); (focus lcg_sub); (focus lcg_sub))
  | ((with_reducible apply Rv.Ac.hl); (focus assumption); (focus lcg_sub))
  | ((with_reducible apply L2.SqL.of); (focus assumption))
  | ((with_reducible apply Rv.Ext.sq); (focus assumption); (focus lcg_sub))
  | ((with_reducible apply Rv.But.sq); (focus assumption); (focus lcg_sub); (focus lcg_sub))
  | ((with_reducible apply Rv.Ac.sq); (focus assumption); (focus lcg_sub))
  | ((with_reducible apply L2.SqT.of); (focus assumption))
  | ((with_reducible apply Rv.Ext.st); (focus assumption); (focus lcg_sub))
  | ((with_reducible apply Rv.But.st); (focus assumption); (focus lcg_sub); (focus lcg_sub))
  | ((with_reducible apply Rv.Ac.st); (focus assumption); (focus lcg_sub))
  | ((with_reducible apply L2.Rd.of); (focus lcg_sub))
  | ((with_reducible apply Rv.RivAt.ext); (focus assumption); (focus lcg_sub))
  | ((with_reducible apply Rv.RivAt.but); (focus assumption); (focus lcg_sub); (focus lcg_sub); (focus lcg_sub))
  | ((with_reducible apply Rv.RivAt.ac); (focus assumption); (focus lcg_sub))
  | (with_reducible apply Rv.nin_nil)
  | ((with_reducible apply Rv.BokAt.ext); (focus assumption); (focus lcg_sub))
  | ((with_reducible apply Rv.DicAt.ne); (focus assumption); (focus kln_le); (focus (intro _ z; cases z)))
  | ((with_reducible apply Rv.DicAt.nf); (focus assumption); (focus kln_le))
  | ((with_reducible apply Rv.Ext.tup); (focus assumption))
  | ((with_reducible apply Rv.Ac.tup); (focus assumption))
  | ((with_reducible apply Rv.nin_cons); (focus lcg_sub); (focus lcg_sub))
  | (with_reducible apply Rv.frs_nil)
  | ((with_reducible apply Rv.frs_cons); (focus lcg_sub); (focus lcg_sub))
  | ((with_reducible apply Ne.symm); (focus assumption))
  | ((with_reducible apply Rv.ne_nf); (focus assumption); (focus kln_le))
  | ((with_reducible apply Rv.ne_fn); (focus assumption); (focus kln_le))
  | ((with_reducible apply Rv.ne_k1); (focus assumption); (focus kln_le); (focus (first | (intro z; cases z; done) | ((with_reducible apply Rv.ins_ne); intro z; cases z; done))))
  | ((with_reducible apply Rv.ne_k2); (focus assumption); (focus kln_le); (focus (first | (intro z; cases z; done) | ((with_reducible apply Rv.ins_ne); intro z; cases z; done))))
  | ((with_reducible apply Rv.free2); (focus assumption); (focus kln_le))
  | (with_reducible apply Rv.Ac.refl)
  | ((with_reducible apply Rv.Ac.step'); (focus assumption); (focus lcg_sub))
  | ((with_reducible apply Rv.Ac.but'); (focus assumption); (focus lcg_sub); (focus lcg_sub))
  | (with_reducible apply Rv.Ext.refl)
  | ((with_reducible apply Rv.Ac.ext); (focus lcg_sub))
  | ((with_reducible apply Rv.sz_le); first | omega | (simp only [List.length_cons, List.length_nil, List.length_map, List.length_append]; omega))
  | ((with_reducible apply Rv.sz_lt); first | omega | (simp only [List.length_cons, List.length_nil, List.length_map, List.length_append]; omega)))
local macro_rules | `(tactic| lcg_off) => `(tactic| first
  | (with_reducible apply Rv.r_seq)
  | (with_reducible apply Rv.r_asg)
  | (with_reducible apply Rv.r_op)
  | ((with_reducible apply Rv.r_var); (focus with_unfolding_all rfl))
  | (with_reducible apply Rv.r_c)
  | (with_reducible apply Rv.r_if)
  | (with_reducible apply Rv.r_test)
  | (with_reducible apply Rv.r_fld)
  | (with_reducible apply Rv.r_cons)
  | (with_reducible apply Rv.r_nil)
  | (with_reducible apply Rv.r_ret)
  | (with_reducible apply Rv.r_drop)
  | (with_reducible apply Rv.r_meth)
  | (with_reducible apply Rv.r_fn)
  | (with_reducible apply Rv.r_CB)
  | (with_reducible apply Rv.r_BM)
  | (with_reducible apply Rv.r_BM0)
  | (with_reducible apply Rv.k_bl)
  | (with_reducible apply Rv.r_not)
  | (with_reducible apply Rv.r_and)
  | (with_reducible apply Rv.r_or)
  | (with_reducible apply Rv.k_andT)
  | (with_reducible apply Rv.k_andF)
  | (with_reducible apply Rv.k_orT)
  | (with_reducible apply Rv.k_orF)
  | (with_reducible apply Rv.r_tB)
  | (with_reducible apply Rv.r_chain)
  | (with_reducible apply Rv.r_un)
  | (with_reducible apply Rv.r_tup)
  | (with_reducible apply Rv.r_lst)
  | (with_reducible apply Rv.r_andV)
  | (with_reducible apply Rv.r_orV)
  | (with_reducible apply Rv.r_notV)
  | (with_reducible apply Rv.r_ifE)
  | (with_reducible apply Rv.k_notV)
  | (with_reducible apply Rv.k_andVT)
  | (with_reducible apply Rv.k_andVF)
  | (with_reducible apply Rv.k_orVT)
  | (with_reducible apply Rv.k_orVF)
  | (with_reducible apply Rv.k_addI)
  | (with_reducible apply Rv.k_subI)
  | ((with_reducible apply Rv.k_mulI); (focus (unfold L2.CMul; omega)))
  | ((with_reducible apply Rv.k_divI); (focus (unfold L2.CDiv; omega)))
  | ((with_reducible apply Rv.k_modI); (focus omega))
  | ((with_reducible apply Rv.k_powI); (focus (unfold L2.CPow; decide)))
  | (with_reducible apply Rv.k_negI)
  | (with_reducible apply Rv.k_ltI)
  | (with_reducible apply Rv.k_leI)
  | (with_reducible apply Rv.k_gtI)
  | (with_reducible apply Rv.k_geI)
  | (with_reducible apply Rv.k_eqI)
  | (with_reducible apply Rv.k_neI)
  | (with_reducible apply Rv.k_eqS)
  | (with_reducible apply Rv.k_neS)
  | (with_reducible apply Rv.k_isNN)
  | (with_reducible apply Rv.k_isNI)
  | (with_reducible apply Rv.k_isNR)
  | (with_reducible apply Rv.k_notNN)
  | (with_reducible apply Rv.k_notNI)
  | (with_reducible apply Rv.k_notNR)
  | ((with_reducible apply Rv.k_tyL); (focus lcg_sub))
  | ((with_reducible apply Rv.k_ixT); (focus lcg_sub); (focus with_unfolding_all rfl))
  | ((with_reducible apply Rv.k_ixL); (focus lcg_sub); (focus with_unfolding_all rfl))
  | ((with_reducible apply Rv.k_lenL); (focus lcg_sub))
  | ((with_reducible apply Rv.k_lenU); (focus lcg_sub))
  | ((with_reducible apply Rv.k_tup); (focus lcg_sub))
  | ((with_reducible apply Rv.k_lst); (focus lcg_sub))
  | ((with_reducible apply Rv.k_list); (focus lcg_sub))
  | ((with_reducible apply Rv.k_append); (focus lcg_sub); (focus lcg_sub))
  | ((with_reducible apply Rv.k_cat); (focus lcg_sub); (focus lcg_sub); (focus lcg_sub))
  | ((with_reducible apply Rv.k_clear); (focus lcg_sub))
  | (with_reducible apply Rv.k_int1)
  | (with_reducible apply Rv.k_max2)
  | (with_reducible apply Rv.k_min2)
  | (with_reducible apply Rv.k_str)
  | (with_reducible apply Rv.k_part)
  | (with_reducible apply Rv.r_M1)
  | (with_reducible apply Rv.r_dget)
  | (with_reducible apply Rv.r_din)
  | (with_reducible apply Rv.r_dnotin)
  | (with_reducible apply Rv.r_dget2)
  | (with_reducible apply Rv.r_sl)
  | (with_reducible apply Rv.r_nopart)
  | (with_reducible apply Rv.r_part)
  | (with_reducible apply Rv.r_for)
  | (with_reducible apply Rv.r_lc)
  | (with_reducible apply Rv.r_yes)
  | (with_reducible apply Rv.r_iList)
  | (with_reducible apply Rv.r_iRng1)
  | (with_reducible apply Rv.r_iRng2)
  | (with_reducible apply Rv.r_iZip)
  | (with_reducible apply Rv.r_iStr)
  | (with_reducible apply Rv.r_iKeys)
  | (with_reducible apply Rv.r_lstRg)
  | ((with_reducible apply Rv.k_itl); (focus lcg_sub))
  | ((with_reducible apply Rv.k_zip); (focus lcg_sub); (focus lcg_sub))
  | ((with_reducible apply Rv.k_rng1); (focus omega))
  | ((with_reducible apply Rv.k_rng2); (focus omega))
  | (with_reducible apply Rv.k_its)
  | (with_reducible apply Rv.r_retN)
  | (with_reducible apply Rv.r_next)
  | (with_reducible apply Rv.r_setF)
  | (with_reducible apply Rv.r_dput)
  | (with_reducible apply Rv.r_setI)
  | (with_reducible apply Rv.r_raise)
  | (with_reducible apply Rv.r_wF)
  | (with_reducible apply Rv.k_ifTT)
  | (with_reducible apply Rv.k_ifFF)
  | (with_reducible apply Rv.k_ifNT)
  | (with_reducible apply Rv.k_ifNF)
  | (with_reducible apply Rv.k_andNT)
  | (with_reducible apply Rv.k_andNF)
  | (with_reducible apply Rv.k_orNT)
  | (with_reducible apply Rv.k_orNF)
  | (with_reducible apply Rv.k_andVNT)
  | (with_reducible apply Rv.k_andVNF)
  | (with_reducible apply Rv.k_orVNT)
  | (with_reducible apply Rv.k_orVNF)
  | (with_reducible apply Rv.k_isB_ii)
  | (with_reducible apply Rv.k_isB_ib)
  | (with_reducible apply Rv.k_isB_bi)
  | (with_reducible apply Rv.k_isB_bb)
  | (with_reducible apply Rv.k_isB_ni)
  | (with_reducible apply Rv.k_isB_ss)
  | ((with_reducible apply Rv.k_isB_ll); (focus lcg_sub))
  | ((with_reducible apply Rv.k_isB_tt); (focus lcg_sub))
  | (with_reducible apply Rv.r_mk)
  | (with_reducible apply Rv.r_rg1)
  | (with_reducible apply Rv.k_rg1)
  | (with_reducible apply Rv.r_dpop1)
  | (with_reducible apply Rv.k_ifNNT)
  | (with_reducible apply Rv.k_ifNNF)
  | (with_reducible apply Rv.r_dropE)
  | (with_reducible apply Rv.r_dropR)
  | (with_reducible apply Rv.r_dropN)
  | (with_reducible apply Rv.r_dropM))
namespace Rv
open PySem L2
/-! ### the river -/
abbrev nV (n : Nat) : V := .int (n : Int)
def oV (o : Option Int) : V := match o with
  | none => .non
  | some n => .int n
def belV (B : List Nat) : List V := .non :: B.map nV
def belO (B : List Nat) (p : Nat) : V := match p with
  | 0 => .non
  | q + 1 => nV (B.getD q 0)
/-- each point but the mouth has a lesser one below it: B, from point 1 on -/
structure Riv (B : List Nat) : Prop where
  few : B.length < 40
  low : ∀ i, i < B.length → B.getD i 0 ≤ i
theorem belV_len (B : List Nat) : (belV B).length = B.length + 1 := by
  unfold belV
  rw [List.length_cons, List.length_map]
theorem belV_get {B : List Nat} {p : Nat} (h : p ≤ B.length) : (belV B)[p]? = some (belO B p) := by
  cases p with
  | zero => rfl
  | succ q =>
    show (List.map _ B)[q]? = some (nV (B.getD q 0))
    have : B[q]? = some B[q] := by simp [show q < B.length by omega]
    rw [List.getElem?_map, List.getD_eq_getElem?_getD, this]
    rfl
theorem belV_at {B : List Nat} {p : Nat} (h : p ≤ B.length) : atI (belV B) (p : Int) = some (belO B p) := atI_nat (belV_get h)
structure RivAt (c : Cs) (H : Hp) (r l : Addr) (B : List Nat) : Prop where
  ob : ∃ dx, H r = some (.ins c.river dx [("lower", .ref l)])
  li : H l = some (.lst (belV B))
  ok : Riv B
structure RiverT (c : Cs) : Prop where
  cl : Cls c.K c.river
  nL : NoAttr c.K c.river "lower"
section
variable {c : Cs} {H H' : Hp} {r l : Addr} {B : List Nat}
theorem RivAt.ext (e : Ext H H') (h : RivAt c H r l B) : RivAt c H' r l B := ⟨let ⟨dx, q⟩ := h.ob; ⟨dx, e.g _ _ q⟩, e.g _ _ h.li, h.ok⟩
theorem RivAt.ac (e : Ac H H') (h : RivAt c H r l B) : RivAt c H' r l B := h.ext e.ext
theorem RivAt.but {S : List Addr} (e : But S H H') (h : RivAt c H r l B) (n1 : r ∉ S) (n2 : l ∉ S) : RivAt c H' r l B := ⟨let ⟨dx, q⟩ := h.ob; ⟨dx, e.g _ _ q n1⟩, e.g _ _ h.li n2, h.ok⟩
end
/-- the way of a point -/
def wayM (B : List Nat) : Nat → List Nat
  | 0 => [0]
  | p + 1 => (p + 1) :: wayM B (min (B.getD p 0) p)
termination_by p => p
decreasing_by omega
theorem wayM_zero (B : List Nat) : wayM B 0 = [0] := by unfold wayM; rfl
theorem wayM_succ {B : List Nat} (h : Riv B) {p : Nat} (hp : p < B.length) : wayM B (p + 1) = (p + 1) :: wayM B (B.getD p 0) := by
  have := h.low p hp
  rw [wayM, Nat.min_eq_left this]
theorem wayM_le {B : List Nat} : ∀ (p q : Nat), q ∈ wayM B p → q ≤ p := by
  intro p
  induction p using Nat.strongRecOn with
  | _ p ih =>
    intro q hq
    cases p with
    | zero =>
      rw [wayM_zero] at hq
      simp at hq
      omega
    | succ n =>
      rw [wayM] at hq
      rcases List.mem_cons.mp hq with e | hq
      · omega
      · have := ih _ (by omega) q hq
        omega
theorem wayM_len {B : List Nat} : ∀ (p : Nat), (wayM B p).length ≤ p + 1 := by
  intro p
  induction p using Nat.strongRecOn with
  | _ p ih =>
    cases p with
    | zero => rw [wayM_zero]; exact Nat.le_refl _
    | succ n =>
      rw [wayM, List.length_cons]
      have := ih _ (show min (B.getD n 0) n < n + 1 by omega)
      omega
def aboveM (B : List Nat) (p : Nat) : List Nat := (List.range (B.length + 1)).filter fun k => decide (p ∈ wayM B k)
theorem aboveM_len (B : List Nat) (p : Nat) : (aboveM B p).length ≤ B.length + 1 := by
  unfold aboveM
  have := List.length_filter_le (fun k => decide (p ∈ wayM B k)) (List.range (B.length + 1))
  rw [List.length_range] at this
  omega
/-- what is left of the way: none, or a point and on -/
def restM (B : List Nat) : Option Nat → List Nat
  | none => []
  | some q => wayM B q
def oN (o : Option Nat) : V := match o with
  | none => .non
  | some n => nV n
def nextM (B : List Nat) : Nat → Option Nat
  | 0 => none
  | q + 1 => some (B.getD q 0)
theorem oN_next (B : List Nat) (q : Nat) : oN (nextM B q) = belO B q := by cases q <;> rfl
theorem rest_next {B : List Nat} (h : Riv B) {q : Nat} (hq : q ≤ B.length) : wayM B q = q :: restM B (nextM B q) := by
  cases q with
  | zero => rw [wayM_zero]; rfl
  | succ n => rw [wayM_succ h (by omega)]; rfl
theorem next_le {B : List Nat} (h : Riv B) {q m : Nat} (hq : q ≤ B.length) (e : nextM B q = some m) : m < q ∧ m ≤ B.length := by
  cases q with
  | zero => cases e
  | succ n =>
    have e' : B.getD n 0 = m := Option.some.inj e
    have := h.low n (by omega)
    omega
def sizeO : Option Nat → Nat
  | none => 0
  | some q => q + 1
theorem all_flat_nV (xs : List Nat) : (xs.map nV).all flatV = true := by
  rw [List.all_eq_true]
  intro v hv
  obtain ⟨n, _, rfl⟩ := List.mem_map.mp hv
  rfl
theorem inV_nV (p : Nat) (xs : List Nat) : inV (nV p) (xs.map nV) = decide (p ∈ xs) := by
  unfold inV
  rw [List.any_map]
  by_cases h : p ∈ xs
  · rw [decide_eq_true h, List.any_eq_true]
    exact ⟨p, h, by show ((p : Int) == (p : Int)) = true; simp⟩
  · rw [decide_eq_false h, List.any_eq_false]
    intro q hq e
    have e' : ((q : Int) == (p : Int)) = true := e
    have : q = p := by
      have e2 := eq_of_beq e'
      omega
    exact h (this ▸ hq)
theorem at0 {α : Type} (x : α) (xs : List α) : atI (x :: xs) 0 = some x := atI_nat (j := 0) rfl
/-! ### promises -/
def sp_River_points (c : Cs) : Sp := fun vs H Q E => ∃ r l B, vs = [.ref r] ∧ RivAt c H r l B ∧ Q (.int ((B.length : Int) + 1)) H
def sp_River_below (c : Cs) : Sp := fun vs H Q E => ∃ r l B z, vs = [.ref r, .int z] ∧ RivAt c H r l B ∧ (∀ p : Nat, z = p → p ≤ B.length → Q (belO B p) H) ∧ (¬ (0 ≤ z ∧ z ≤ B.length) → E (.ref c.noPoint) none H)
def sp_River_way (c : Cs) : Sp := fun vs H Q E => ∃ r l B z, vs = [.ref r, .int z] ∧ RivAt c H r l B ∧
  (∀ p : Nat, z = p → p ≤ B.length → ∀ a H', H a = none → Ext H H' → H' a = some (.lst ((wayM B p).map nV)) → Q (.ref a) H') ∧ (¬ (0 ≤ z ∧ z ≤ B.length) → ∀ H', Ext H H' → E (.ref c.noPoint) none H')
def sp_River_above (c : Cs) : Sp := fun vs H Q E => ∃ r l B z, vs = [.ref r, .int z] ∧ RivAt c H r l B ∧
  (∀ p : Nat, z = p → p ≤ B.length → ∀ a H', H a = none → Ext H H' → H' a = some (.lst ((aboveM B p).map nV)) → Q (.ref a) H') ∧ (¬ (0 ≤ z ∧ z ≤ B.length) → E (.ref c.noPoint) none H)
/-- a list that tells a river -/
def Tells (rows : List (Option Int)) (B : List Nat) : Prop := rows.map oV = belV B ∧ Riv B
theorem rows_of : ∀ {rest : List (Option Int)} {B : List Nat}, rest.map oV = B.map nV → rest = B.map fun (n : Nat) => some (n : Int)
  | [], [], _ => rfl
  | [], _ :: _, h => by cases h
  | _ :: _, [], h => by cases h
  | o :: rest, n :: B, h => by
    have h1 : oV o = nV n := (List.cons.inj h).1
    have h2 := rows_of (List.cons.inj h).2
    cases o with
    | none => cases h1
    | some m =>
      have e : m = (n : Int) := V.int.inj h1
      rw [h2, e]
      rfl
theorem tells_get {rest : List (Option Int)} {B : List Nat} (t : Tells (none :: rest) B) {i : Nat} (h : i < rest.length) : rest[i]? = some (some ((B.getD i 0 : Nat) : Int)) ∧ B.getD i 0 ≤ i := by
  have e := rows_of (List.cons.inj t.1).2
  have hl : rest.length = B.length := by rw [e, List.length_map]
  refine ⟨?_, t.2.low i (by omega)⟩
  have hb : B[i]? = some B[i] := by simp [show i < B.length by omega]
  rw [e, List.getElem?_map, List.getD_eq_getElem?_getD, hb]
  rfl
theorem tells_of {rest : List (Option Int)} (hl : rest.length < 40) (h : ∀ j, j < rest.length → ∃ m : Nat, rest[j]? = some (some (m : Int)) ∧ m ≤ j) : ∃ B, Tells (none :: rest) B := by
  refine ⟨rest.map fun o => (o.getD 0).toNat, ?_, by rw [List.length_map]; exact hl, fun i hi => ?_⟩
  · show V.non :: rest.map oV = V.non :: (rest.map fun o => (o.getD 0).toNat).map nV
    rw [List.map_map]
    refine congrArg (V.non :: ·) (List.map_congr_left fun o ho => ?_)
    obtain ⟨j, hj, e⟩ := List.getElem_of_mem ho
    obtain ⟨m, hm, _⟩ := h j hj
    rw [List.getElem?_eq_getElem hj, e] at hm
    cases hm
    show V.int (m : Int) = V.int (((m : Int).toNat : Nat) : Int)
    rw [Int.toNat_natCast]
  · rw [List.length_map] at hi
    obtain ⟨m, hm, hle⟩ := h i hi
    rw [List.getD_eq_getElem?_getD, List.getElem?_map, hm]
    show ((m : Int)).toNat ≤ i
    rw [Int.toNat_natCast]
    exact hle
def sp_River_init (c : Cs) : Sp := fun vs H Q E => ∃ x dx b rows, vs = [.ref x, .ref b] ∧ H x = some (.ins c.river dx []) ∧ SqL c.K H b (rows.map oV) ∧ rows.length ≤ 1000 ∧
  (∀ B, Tells rows B → ∀ l H', H l = none → But [x] H H' → RivAt c H' x l B → Q .non H') ∧ ((∀ B, ¬ Tells rows B) → E (.ref c.badRiver) none H)
-- River_points: 0 self
def t_River_points (c : Cs) (E : XK) : TS :=
  (tRet (tCB (rLenS c.K) (tCons (tFld c.K (tVar 0) "lower") tNil)))
-- River_below: 0 self 1 point
def t_River_below (c : Cs) (E : XK) : TS :=
  (tSeq (tIfS (tNot (tTest (tChain rLeI rLtI (tC (.int 0)) (tVar 1) (tCB (rLenS c.K) (tCons (tFld c.K (tVar 0) "lower") tNil))))) (tRaise (wF E) c.noPoint) tNext)
  (tRet (tOp (rIxL c.K) (tFld c.K (tVar 0) "lower") (tVar 1))))
-- River_way: 0 self 1 point 2 found
def t_River_way (c : Cs) (E : XK) : TS :=
  (tSeq (tAsg (tLst tNil) (gName 2))
  (tSeq (tWhile (tTest (tOp rNotNon (tVar 1) (tC .non))) (tSeq (tDrop (tBM c.K "list" rAppend (tVar 2) (tCons (tVar 1) tNil)))
  (tAsg (tMethS c.river "below" (sp_River_below c) (wF E) (tVar 0) (tCons (tVar 1) tNil)) (gName 1))))
  (tRet (tVar 2))))
-- River_above: 0 self 1 point 2 other
def t_River_above (c : Cs) (E : XK) : TS :=
  (tSeq (tDrop (tMethS c.river "below" (sp_River_below c) (wF E) (tVar 0) (tCons (tVar 1) tNil)))
  (tRet (tLc (iRng1 (tCons (tCB (rLenS c.K) (tCons (tFld c.K (tVar 0) "lower") tNil)) tNil)) (gName 2) (tTest (tOp (rIn c.K false) (tVar 1) (tMethS c.river "way" (sp_River_way c) wN (tVar 0) (tCons (tVar 2) tNil)))) (tVar 2) [2])))
-- River_init: 0 self 1 below 2 point
def t_River_init (c : Cs) (E : XK) : TS :=
  (tSeq (tIfS (tOr (tNot (tTest (tChain rLeI rLeI (tC (.int 1)) (tCB (rLenS c.K) (tCons (tVar 1) tNil)) (tC (.int 40))))) (tTest (tOp rNotNon (tOp (rIxL c.K) (tVar 1) (tC (.int 0))) (tC .non)))) (tRaise (wF E) c.badRiver) tNext)
  (tSeq (tFor (iRng2 (tCons (tC (.int 1)) (tCons (tCB (rLenS c.K) (tCons (tVar 1) tNil)) tNil))) (gName 2)
  (tIfS (tOr (tTest (tOp rIsNon (tOp (rIxL c.K) (tVar 1) (tVar 2)) (tC .non))) (tNot (tTest (tChain rLeI rLtI (tC (.int 0)) (tOp (rIxL c.K) (tVar 1) (tVar 2)) (tVar 2))))) (tRaise (wF E) c.badRiver) tNext))
  (sFld c.K (tVar 0) (tCB (rListS c.K) (tCons (tVar 1) tNil)) "lower")))
section
variable {c : Cs}
theorem pure_River_points (R : RiverT c) (vs : List V) (H : Hp) (Q : VK) (E : XK) (h : sp_River_points c vs H Q E) : t_River_points c E { nx := fun _ H' => Q .non H', rt := Q } (start ["self"] vs) H := by
  obtain ⟨r, l, B, rfl, A, k⟩ := h
  obtain ⟨dx, hr⟩ := A.ob
  have hl := A.li
  unfold t_River_points
  repeat lcg_off
  refine k_fld hr R.cl R.nL (by lcg_src) ?_
  repeat lcg_off
  rw [belV_len]
  exact_mod_cast k
theorem pure_River_below (R : RiverT c) (vs : List V) (H : Hp) (Q : VK) (E : XK) (h : sp_River_below c vs H Q E) : t_River_below c E { nx := fun _ H' => Q .non H', rt := Q } (start ["self", "point"] vs) H := by
  obtain ⟨r, l, B, z, rfl, A, k, kE⟩ := h
  obtain ⟨dx, hr⟩ := A.ob
  have hl := A.li
  unfold t_River_below
  repeat lcg_off
  refine k_chainD (fun h1 => ?_) (fun h1 => ?_)
  · repeat lcg_off
    refine k_fld hr R.cl R.nL (by lcg_src) ?_
    repeat lcg_off
    rw [belV_len]
    refine k_ifN (fun h2 => ?_) (fun h2 => ?_)
    · repeat lcg_off
      exact kE (by omega)
    · repeat lcg_off
      refine k_fld hr R.cl R.nL (by lcg_src) ?_
      repeat lcg_off
      obtain ⟨p, rfl⟩ := Int.eq_ofNat_of_zero_le h1
      exact k_ixL (by lcg_sub) (belV_at (by omega)) (k p rfl (by omega))
  · repeat lcg_off
    exact kE (by omega)
theorem pure_River_way (R : RiverT c) (vs : List V) (H : Hp) (Q : VK) (E : XK) (h : sp_River_way c vs H Q E) : t_River_way c E { nx := fun _ H' => Q .non H', rt := Q } (start ["self", "point", "found"] vs) H := by
  obtain ⟨r, l, B, z, rfl, A, k, kE⟩ := h
  unfold t_River_way
  repeat lcg_off
  intro a H1 ha e1 h1
  repeat lcg_off
  by_cases hz : 0 ≤ z ∧ z ≤ B.length
  · obtain ⟨p, rfl⟩ := Int.eq_ofNat_of_zero_le hz.1
    refine r_while (fun m σ H' => ∃ pre o, σ = [some (.ref r), some (oN o), some (.ref a)] ∧ Ac H H' ∧ H' a = some (.lst (List.map nV pre)) ∧ pre ++ restM B o = wayM B p ∧ (∀ q, o = some q → q ≤ B.length) ∧ m = sizeO o) (m0 := p + 1) ?_ ?_ ?_
    · exact ⟨[], some p, rfl, e1.ac, h1, rfl, fun q e => by cases e; omega, rfl⟩
    · rintro m σ H' ⟨pre, o, rfl, ac, hp, hw, ho, rfl⟩
      cases o with
      | none =>
        show tTest _ [some (.ref r), some .non, some (.ref a)] _ _
        repeat lcg_off
        have : pre = wayM B p := by rw [← hw]; exact (List.append_nil _).symm
        subst this
        exact k p rfl (by omega) a H' ha ac.ext hp
      | some q =>
        have hq := ho q rfl
        have hlen : pre.length ≤ 1000 := by
          have h1 := congrArg List.length hw
          rw [List.length_append] at h1
          have := wayM_len (B := B) p
          have := A.ok.few
          omega
        show tTest _ [some (.ref r), some (.int (q : Int)), some (.ref a)] _ _
        repeat lcg_off
        intro H2 b2 h2
        repeat lcg_off
        refine k_meth (A.ext (ac.but b2 (by lcg_sub)).ext).ob.choose_spec (by lcg_src) ?_
        repeat lcg_off
        refine ⟨r, l, B, q, rfl, A.ext (ac.but b2 (by lcg_sub)).ext, fun q' e hq' => ?_, fun hn => absurd hn (by omega)⟩
        have e' : q = q' := by omega
        subst e'
        refine ⟨sizeO (nextM B q), ?_, pre ++ [q], nextM B q, ?_, ac.but b2 (by lcg_sub), ?_, ?_, fun m e => (next_le A.ok hq e).2, rfl⟩
        · cases e : nextM B q with
          | none => exact Nat.succ_pos _
          | some m =>
            have := (next_le A.ok hq e).1
            show m + 1 < q + 1
            omega
        · rw [oN_next]
          rfl
        · rw [h2, List.map_append]
          rfl
        · rw [← hw, List.append_assoc]
          show pre ++ (q :: restM B (nextM B q)) = pre ++ wayM B q
          rw [← rest_next A.ok hq]
    · intro σ' H' Q1 Q2 hQ h
      exact h.imp fun v hv => ⟨hv.1, ⟨hv.2.1, hv.2.2.imp fun b hb => ⟨hb.1, hQ _ _ hb.2⟩⟩⟩
  · refine r_while (fun m σ H' => σ = [some (.ref r), some (.int z), some (.ref a)] ∧ H' = H1) (m0 := 0) ⟨rfl, rfl⟩ ?_ ?_
    · rintro m σ H' ⟨rfl, rfl⟩
      repeat lcg_off
      intro H2 b2 h2
      have ac2 : Ac H H2 := e1.ac.but b2 (by lcg_sub)
      repeat lcg_off
      refine k_meth (A.ext ac2.ext).ob.choose_spec (by lcg_src) ?_
      repeat lcg_off
      exact ⟨r, l, B, z, rfl, A.ext ac2.ext, fun p e hp => absurd hz (by omega), fun hn => kE hn H2 ac2.ext⟩
    · intro σ' H' Q1 Q2 hQ h
      exact h.imp fun v hv => ⟨hv.1, ⟨hv.2.1, hv.2.2.imp fun b hb => ⟨hb.1, hQ _ _ hb.2⟩⟩⟩
theorem pure_River_above (R : RiverT c) (vs : List V) (H : Hp) (Q : VK) (E : XK) (h : sp_River_above c vs H Q E) : t_River_above c E { nx := fun _ H' => Q .non H', rt := Q } (start ["self", "point", "other"] vs) H := by
  obtain ⟨r, l, B, z, rfl, A, k, kE⟩ := h
  obtain ⟨dx, hr⟩ := A.ob
  have hl := A.li
  have hf := A.ok.few
  unfold t_River_above
  repeat lcg_off
  refine k_meth hr (by lcg_src) ?_
  repeat lcg_off
  refine ⟨r, l, B, z, rfl, A, fun p e hp => ?_, kE⟩
  subst e
  repeat lcg_off
  refine k_fld hr R.cl R.nL (by lcg_src) ?_
  repeat lcg_off
  rw [belV_len]
  refine k_rng1 (by omega) ?_
  refine k_lcR (fun k => decide (p ∈ wayM B k)) nV (fun x => rfl) (by omega) (fun i hi H1 ac QB q => ?_) (fun i hi hp H1 ac Q1 q => ?_) (fun D H' hD e hd => ?_)
  · repeat lcg_off
    rw [Int.zero_add]
    refine k_meth (A.ext ac.ext).ob.choose_spec (by lcg_src) ?_
    repeat lcg_off
    refine ⟨r, l, B, i, rfl, A.ext ac.ext, fun i' e hi' => ?_, fun hn => absurd hn (by omega)⟩
    have e' : i = i' := by omega
    subst e'
    intro a H2 ha e2 h2
    refine k_inL (by lcg_sub) rfl (all_flat_nV _) ?_
    repeat lcg_off
    rw [inV_nV]
    exact q H2 e2
  · repeat lcg_off
    rw [Int.zero_add]
    exact q H1 (Ext.refl _)
  · refine k p rfl hp D H' hD e ?_
    rw [hd]
    rfl
theorem pure_River_init (R : RiverT c) (vs : List V) (H : Hp) (Q : VK) (E : XK) (h : sp_River_init c vs H Q E) : t_River_init c E { nx := fun _ H' => Q .non H', rt := Q } (start ["self", "below", "point"] vs) H := by
  obtain ⟨x, dx, b, rows, rfl, hx, hb, hlen, k, kE⟩ := h
  unfold t_River_init
  repeat lcg_off
  refine k_chainD (fun h1 => ?_) (fun h1 => ?_)
  · repeat lcg_off
    rw [List.length_map] at h1 ⊢
    refine k_orN (fun h2 => ?_) (fun h2 => ?_)
    · repeat lcg_off
      refine kE fun B t => ?_
      have := congrArg List.length t.1
      have h3 := t.2.few
      rw [List.length_map, belV_len] at this
      omega
    · repeat lcg_off
      cases rows with
      | nil => exact absurd h1 (by simp)
      | cons o rest =>
        refine k_ixL hb (at0 _ _) ?_
        cases o with
        | some n =>
          dsimp only [oV]
          repeat lcg_off
          refine kE fun B t => ?_
          have := t.1
          cases this
        | none =>
          dsimp only [oV]
          repeat lcg_off
          rw [List.length_map]
          have hr : rest.length < 40 := by
            rw [List.length_cons] at h2
            omega
          have hn : (((none :: rest).length : Int) - 1).toNat = rest.length := by
            rw [List.length_cons]
            omega
          refine k_rng2 (by omega) ?_
          rw [hn]
          have hget : ∀ (i : Nat) o, rest[i]? = some o → atI ((none :: rest).map oV) (1 + (i : Int)) = some (oV o) := fun i o e => by
            have := atI_nat (xs := (none :: rest).map oV) (j := i + 1) (v := oV o) (by rw [List.getElem?_map, List.getElem?_cons_succ, e]; rfl)
            rw [← this]
            congr 1
            omega
          refine k_forR (fun i σ H' => (∃ v, σ = [some (.ref x), some (.ref b), v]) ∧ H' = H ∧ ∀ j, j < i → ∃ m : Nat, rest[j]? = some (some (m : Int)) ∧ m ≤ j) ⟨⟨_, rfl⟩, rfl, fun j hj => absurd hj (Nat.not_lt_zero _)⟩ ?_ ?_
          · rintro i σ H' hi ⟨⟨v, rfl⟩, rfl, hj⟩
            have hg : rest[i]? = some rest[i] := by simp [hi]
            show tIfS _ _ _ _ [some (.ref x), some (.ref b), some (.int (1 + (i : Int)))] _
            repeat lcg_off
            refine k_ixL hb (hget i _ hg) ?_
            have bad : (∀ m : Nat, rest[i]? = some (some (m : Int)) → ¬ m ≤ i) → E (.ref c.badRiver) none H' := fun hm => kE fun B t => hm _ (tells_get t hi).1 (tells_get t hi).2
            cases e : rest[i] with
            | none =>
              rw [e] at hg
              dsimp only [oV]
              repeat lcg_off
              exact bad fun m hm => by rw [hg] at hm; cases hm
            | some z =>
              rw [e] at hg
              dsimp only [oV]
              repeat lcg_off
              refine k_ixL hb (hget i _ hg) ?_
              dsimp only [oV]
              repeat lcg_off
              refine k_chainD (fun h3 => ?_) (fun h3 => ?_)
              · repeat lcg_off
                refine k_ifN (fun h4 => ?_) (fun h4 => ?_)
                · repeat lcg_off
                  refine bad fun m hm => ?_
                  rw [hg] at hm
                  cases hm
                  omega
                · repeat lcg_off
                  refine ⟨⟨_, rfl⟩, rfl, fun j hj' => ?_⟩
                  by_cases ej : j = i
                  · subst ej
                    refine ⟨z.toNat, ?_, by omega⟩
                    rw [hg, Int.toNat_of_nonneg h3]
                  · exact hj j (by omega)
              · repeat lcg_off
                refine bad fun m hm => ?_
                rw [hg] at hm
                cases hm
                omega
          · rintro σ H' ⟨⟨v, rfl⟩, rfl, hj⟩
            obtain ⟨B, t⟩ := tells_of hr hj
            repeat lcg_off
            intro p H1 hp e1 h1'
            repeat lcg_off
            refine k_setF (e1.g _ _ hx) R.cl R.nL (by show 0 < 1000; decide) fun H2 b2 h2' => ?_
            have hpx : p ≠ x := (ne_of_none hx hp).symm
            refine k B t p H2 hp ⟨fun a o e n => b2.g _ _ (e1.g _ _ e) n⟩ ⟨⟨dx, h2'⟩, ?_, t.2⟩
            rw [← t.1]
            exact b2.g _ _ h1' (by lcg_sub)
  · repeat lcg_off
    refine kE fun B t => ?_
    have := congrArg List.length t.1
    rw [List.length_map] at *
    rw [belV_len] at this
    omega
end
end Rv

end
section
local macro_rules | `(tactic| lcg_src) => `(tactic| first
  | assumption
  | (with_reducible exact Rv.lk_here)
  | (refine (Rv.lk_past (by decide +kernel)).trans ?_; lcg_src)
  | (with_unfolding_all exact rfl))
local macro_rules | `(tactic| keq_hits) => `(tactic| first
  | assumption
  | ((with_reducible apply Rv.Ext.hl); (focus assumption); (focus keq_hits))
  | ((with_reducible apply Rv.But.hl); (focus assumption); (focus keq_hits); (focus keq_hits))
  | ((with_reducible apply Rv.Ac.hl); (focus assumption); (focus keq_hits))
  | ((with_reducible apply L2.SqL.of); (focus assumption))
  | ((with_reducible apply Rv.Ext.sq); (focus assumption); (focus keq_hits))
  | ((with_reducible apply Rv.But.sq); (focus assumption); (focus keq_hits); (focus keq_hits))
  | ((with_reducible apply Rv.Ac.sq); (focus assumption); (focus keq_hits))
  | ((with_reducible apply L2.SqT.of); (focus assumption))
  | ((with_reducible apply Rv.Ext.st); (focus assumption); (focus keq_hits))
  | ((with_reducible apply Rv.But.st); (focus assumption); (focus keq_hits); (focus keq_hits))
  | ((with_reducible apply Rv.Ac.st); (focus assumption); (focus keq_hits))
  | ((with_reducible apply L2.Rd.of); (focus keq_hits))
  | ((with_reducible apply Rv.RivAt.ext); (focus assumption); (focus keq_hits))
  | ((with_reducible apply Rv.RivAt.but); (focus assumption); (focus keq_hits); (focus keq_hits); (focus keq_hits))
  | ((with_reducible apply Rv.RivAt.ac); (focus assumption); (focus keq_hits))
  | (with_reducible apply Rv.nin_nil)
  | ((with_reducible apply Rv.BokAt.ext); (focus assumption); (focus keq_hits))
  | ((with_reducible apply Rv.DicAt.ne); (focus assumption); (focus assumption); (focus (intro _ z; cases z)))
  | ((with_reducible apply Rv.DicAt.nf); (focus assumption); (focus assumption))
  | ((with_reducible apply Rv.Ext.tup); (focus assumption))
  | ((with_reducible apply Rv.Ac.tup); (focus assumption))
  | ((with_reducible apply Rv.nin_cons); (focus keq_hits); (focus keq_hits))
  | (with_reducible apply Rv.frs_nil)
  | ((with_reducible apply Rv.frs_cons); (focus keq_hits); (focus keq_hits))
  | ((with_reducible apply Ne.symm); (focus assumption))
  | ((with_reducible apply Rv.ne_nf); (focus assumption); (focus assumption))
  | ((with_reducible apply Rv.ne_fn); (focus assumption); (focus assumption))
  | ((with_reducible apply Rv.ne_k1); (focus assumption); (focus assumption); (focus (first | (intro z; cases z; done) | ((with_reducible apply Rv.ins_ne); intro z; cases z; done))))
  | ((with_reducible apply Rv.ne_k2); (focus assumption); (focus assumption); (focus (first | (intro z; cases z; done) | ((with_reducible apply Rv.ins_ne); intro z; cases z; done))))
  | ((with_reducible apply Rv.free2); (focus assumption); (focus assumption))
  | (with_reducible apply Rv.Ac.refl)
  | ((with_reducible apply Rv.Ac.step'); (focus assumption); (focus keq_hits))
  | ((with_reducible apply Rv.Ac.but'); (focus assumption); (focus keq_hits); (focus keq_hits))
  | (with_reducible apply Rv.Ext.refl)
  | ((with_reducible apply Rv.Ac.ext); (focus keq_hits))
  | ((with_reducible apply Rv.sz_le); first | omega | (simp only [List.length_cons, List.length_nil, List.length_map, List.length_append]; omega))
  | ((with_reducible apply Rv.sz_lt); first | omega | (simp only [List.length_cons, List.length_nil, List.length_map, List.length_append]; omega)))
local macro_rules | `(tactic| kln_le) => `(tactic| first
  | assumption
  | ((with_reducible apply Rv.Ext.hl); (focus assumption); (focus kln_le))
  | ((with_reducible apply Rv.But.hl); (focus assumption); (focus kln_le); (focus kln_le))
  | ((with_reducible apply Rv.Ac.hl); (focus assumption); (focus kln_le))
  | ((with_reducible apply L2.SqL.of); (focus assumption))
  | ((with_reducible apply Rv.Ext.sq); (focus assumption); (focus kln_le))
  | ((with_reducible apply Rv.But.sq); (focus assumption); (focus kln_le); (focus kln_le))
  | ((with_reducible apply Rv.Ac.sq); (focus assumption); (focus kln_le))
  | ((with_reducible apply L2.SqT.of); (focus assumption))
  | ((with_reducible apply Rv.Ext.st); (focus assumption); (focus kln_le))
  | ((with_reducible apply Rv.But.st); (focus assumption); (focus kln_le); (focus kln_le))
  | ((with_reducible apply Rv.Ac.st); (focus assumption); (focus kln_le))
  | ((with_reducible apply L2.Rd.of); (focus kln_le))
  | ((with_reducible apply Rv.RivAt.ext); (focus assumption); (focus kln_le))
  | ((with_reducible apply Rv.RivAt.but); (focus assumption); (focus kln_le); (focus kln_le); (focus kln_le))
  | ((with_reducible apply Rv.RivAt.ac); (focus assumption); (focus kln_le))
  | (with_reducible apply Rv.nin_nil)
  | ((with_reducible apply Rv.BokAt.ext); (focus assumption); (focus kln_le))
  | ((with_reducible apply Rv.DicAt.ne); (focus assumption); (focus keq_hits); (focus (intro _ z; cases z)))
  | ((with_reducible apply Rv.DicAt.nf); (focus assumption); (focus keq_hits))
  | ((with_reducible apply Rv.Ext.tup); (focus assumption))
  | ((with_reducible apply Rv.Ac.tup); (focus assumption))
  | ((with_reducible apply Rv.nin_cons); (focus kln_le); (focus kln_le))
  | (with_reducible apply Rv.frs_nil)
  | ((with_reducible apply Rv.frs_cons); (focus kln_le); (focus kln_le))
  | ((with_reducible apply Ne.symm); (focus assumption))
  | ((with_reducible apply Rv.ne_nf); (focus assumption); (focus keq_hits))
  | ((with_reducible apply Rv.ne_fn); (focus assumption); (focus keq_hits))
  | ((with_reducible apply Rv.ne_k1); (focus assumption); (focus keq_hits); (focus (first | (intro z; cases z; done) | ((with_reducible apply Rv.ins_ne); intro z; cases z; done))))
  | ((with_reducible apply Rv.ne_k2); (focus assumption); (focus keq_hits); (focus (first | (intro z; cases z; done) | ((with_reducible apply Rv.ins_ne); intro z; cases z; done))))
  | ((with_reducible apply Rv.free2); (focus assumption); (focus keq_hits))
  | (with_reducible apply Rv.Ac.refl)
  | ((with_reducible apply Rv.Ac.step'); (focus assumption); (focus kln_le))
  | ((with_reducible apply Rv.Ac.but'); (focus assumption); (focus kln_le); (focus kln_le))
  | (with_reducible apply Rv.Ext.refl)
  | ((with_reducible apply Rv.Ac.ext); (focus kln_le))
  | ((with_reducible apply Rv.sz_le); first | omega | (simp only [List.length_cons, List.length_nil, List.length_map, List.length_append]; omega))
  | ((with_reducible apply Rv.sz_lt); first | omega | (simp only [List.length_cons, List.length_nil, List.length_map, List.length_append]; omega)))
local macro_rules | `(tactic| lcg_sub) => `(tactic| first
  | assumption
  | ((with_reducible apply Rv.Ext.hl); (focus assumption); (focus lcg_sub))
  | ((with_reducible apply Rv.But.hl); (focus assumption); (focus lcg_sub); (focus lcg_sub))
  | ((with_reducible apply Rv.Ac.hl); (focus assumption); (focus lcg_sub))
  | ((with_reducible apply L2.SqL.of); (focus assumption))
  | ((with_reducible apply Rv.Ext.sq); (focus assumption); (focus lcg_sub))
  | ((with_reducible apply Rv.But.sq); (focus assumption); (focus lcg_sub); (focus lcg_sub))
  | ((with_reducible apply Rv.Ac.sq); (focus assumption); (focus lcg_sub))
  | ((with_reducible apply L2.SqT.of); (focus assumption))
  | ((with_reducible apply Rv.Ext.st); (focus assumption); (focus lcg_sub))
  | ((with_reducible apply Rv.But.st); (focus assumption); (focus lcg_sub); (focus lcg_sub))
  | ((with_reducible apply Rv.Ac.st); (focus assumption); (focus lcg_sub))
  | ((with_reducible apply L2.Rd.of); (focus lcg_sub))
  | ((with_reducible apply Rv.RivAt.ext); (focus assumption); (focus lcg_sub))
  | ((with_reducible apply Rv.RivAt.but); (focus assumption); (focus lcg_sub); (focus lcg_sub); (focus lcg_sub))
  | ((with_reducible apply Rv.RivAt.ac); (focus assumption); (focus lcg_sub))
  | (with_reducible apply Rv.nin_nil)
  | ((with_reducible apply Rv.BokAt.ext); (focus assumption); (focus lcg_sub))
  | ((with_reducible apply Rv.DicAt.ne); (focus assumption); (focus kln_le); (focus (intro _ z; cases z)))
  | ((with_reducible apply Rv.DicAt.nf); (focus assumption); (focus kln_le))
  | ((with_reducible apply Rv.Ext.tup); (focus assumption))
  | ((with_reducible apply Rv.Ac.tup); (focus assumption))
  | ((with_reducible apply Rv.nin_cons); (focus lcg_sub); (focus lcg_sub))
  | (with_reducible apply Rv.frs_nil)
  | ((with_reducible apply Rv.frs_cons); (focus lcg_sub); (focus lcg_sub))
  | ((with_reducible apply Ne.symm); (focus assumption))
  | ((with_reducible apply Rv.ne_nf); (focus assumption); (focus kln_le))
  | ((with_reducible apply Rv.ne_fn); (focus assumption); (focus kln_le))
  | ((with_reducible apply Rv.ne_k1); (focus assumption); (focus kln_le); (focus (first | (intro z; cases z; done) | ((with_reducible apply Rv.ins_ne); intro z; cases z; done))))
  | ((with_reducible apply Rv.ne_k2); (focus assumption); (focus kln_le); (focus (first | (intro z; cases z; done) | ((with_reducible apply Rv.ins_ne); intro z; cases z; done))))
  | ((with_reducible apply Rv.free2); (focus assumption); (focus kln_le))
  | (with_reducible apply Rv.Ac.refl)
  | ((with_reducible apply Rv.Ac.step'); (focus assumption); (focus lcg_sub))
  | ((with_reducible apply Rv.Ac.but'); (focus assumption); (focus lcg_sub); (focus lcg_sub))
  | (with_reducible apply Rv.Ext.refl)
  | ((with_reducible apply Rv.Ac.ext); (focus lcg_sub))
  | ((with_reducible apply Rv.sz_le); first | omega | (simp only [List.length_cons, List.length_nil, List.length_map, List.length_append]; omega))
  | ((with_reducible apply Rv.sz_lt); first | omega | (simp only [List.length_cons, List.length_nil, List.length_map, List.length_append]; omega)))
local macro_rules | `(tactic| lcg_off) => `(tactic| first
  | (with_reducible apply Rv.r_seq)
  | (with_reducible apply Rv.r_asg)
  | (with_reducible apply Rv.r_op)
  | ((with_reducible apply Rv.r_var); (focus with_unfolding_all rfl))
  | (with_reducible apply Rv.r_c)
  | (with_reducible apply Rv.r_if)
  | (with_reducible apply Rv.r_test)
  | (with_reducible apply Rv.r_fld)
  | (with_reducible apply Rv.r_cons)
  | (with_reducible apply Rv.r_nil)
  | (with_reducible apply Rv.r_ret)
  | (with_reducible apply Rv.r_drop)
  | (with_reducible apply Rv.r_meth)
  | (with_reducible apply Rv.r_fn)
  | (with_reducible apply Rv.r_CB)
  | (with_reducible apply Rv.r_BM)
  | (with_reducible apply Rv.r_BM0)
  | (with_reducible apply Rv.k_bl)
  | (with_reducible apply Rv.r_not)
  | (with_reducible apply Rv.r_and)
  | (with_reducible apply Rv.r_or)
  | (with_reducible apply Rv.k_andT)
  | (with_reducible apply Rv.k_andF)
  | (with_reducible apply Rv.k_orT)
  | (with_reducible apply Rv.k_orF)
  | (with_reducible apply Rv.r_tB)
  | (with_reducible apply Rv.r_chain)
  | (with_reducible apply Rv.r_un)
  | (with_reducible apply Rv.r_tup)
  | (with_reducible apply Rv.r_lst)
  | (with_reducible apply Rv.r_andV)
  | (with_reducible apply Rv.r_orV)
  | (with_reducible apply Rv.r_notV)
  | (with_reducible apply Rv.r_ifE)
  | (with_reducible apply Rv.k_notV)
  | (with_reducible apply Rv.k_andVT)
  | (with_reducible apply Rv.k_andVF)
  | (with_reducible apply Rv.k_orVT)
  | (with_reducible apply Rv.k_orVF)
  | (with_reducible apply Rv.k_addI)
  | (with_reducible apply Rv.k_subI)
  | ((with_reducible apply Rv.k_mulI); (focus (unfold L2.CMul; omega)))
  | ((with_reducible apply Rv.k_divI); (focus (unfold L2.CDiv; omega)))
  | ((with_reducible apply Rv.k_modI); (focus omega))
  | ((with_reducible apply Rv.k_powI); (focus (unfold L2.CPow; decide)))
  | (with_reducible apply Rv.k_negI)
  | (with_reducible apply Rv.k_ltI)
  | (with_reducible apply Rv.k_leI)
  | (with_reducible apply Rv.k_gtI)
  | (with_reducible apply Rv.k_geI)
  | (with_reducible apply Rv.k_eqI)
  | (with_reducible apply Rv.k_neI)
  | (with_reducible apply Rv.k_eqS)
  | (with_reducible apply Rv.k_neS)
  | (with_reducible apply Rv.k_isNN)
  | (with_reducible apply Rv.k_isNI)
  | (with_reducible apply Rv.k_isNR)
  | (with_reducible apply Rv.k_notNN)
  | (with_reducible apply Rv.k_notNI)
  | (with_reducible apply Rv.k_notNR)
  | ((with_reducible apply Rv.k_tyL); (focus lcg_sub))
  | ((with_reducible apply Rv.k_ixT); (focus lcg_sub); (focus with_unfolding_all rfl))
  | ((with_reducible apply Rv.k_ixL); (focus lcg_sub); (focus with_unfolding_all rfl))
  | ((with_reducible apply Rv.k_lenL); (focus lcg_sub))
  | ((with_reducible apply Rv.k_lenU); (focus lcg_sub))
  | ((with_reducible apply Rv.k_tup); (focus lcg_sub))
  | ((with_reducible apply Rv.k_lst); (focus lcg_sub))
  | ((with_reducible apply Rv.k_list); (focus lcg_sub))
  | ((with_reducible apply Rv.k_append); (focus lcg_sub); (focus lcg_sub))
  | ((with_reducible apply Rv.k_cat); (focus lcg_sub); (focus lcg_sub); (focus lcg_sub))
  | ((with_reducible apply Rv.k_clear); (focus lcg_sub))
  | (with_reducible apply Rv.k_int1)
  | (with_reducible apply Rv.k_max2)
  | (with_reducible apply Rv.k_min2)
  | (with_reducible apply Rv.k_str)
  | (with_reducible apply Rv.k_part)
  | (with_reducible apply Rv.r_M1)
  | (with_reducible apply Rv.r_dget)
  | (with_reducible apply Rv.r_din)
  | (with_reducible apply Rv.r_dnotin)
  | (with_reducible apply Rv.r_dget2)
  | (with_reducible apply Rv.r_sl)
  | (with_reducible apply Rv.r_nopart)
  | (with_reducible apply Rv.r_part)
  | (with_reducible apply Rv.r_for)
  | (with_reducible apply Rv.r_lc)
  | (with_reducible apply Rv.r_yes)
  | (with_reducible apply Rv.r_iList)
  | (with_reducible apply Rv.r_iRng1)
  | (with_reducible apply Rv.r_iRng2)
  | (with_reducible apply Rv.r_iZip)
  | (with_reducible apply Rv.r_iStr)
  | (with_reducible apply Rv.r_iKeys)
  | (with_reducible apply Rv.r_lstRg)
  | ((with_reducible apply Rv.k_itl); (focus lcg_sub))
  | ((with_reducible apply Rv.k_zip); (focus lcg_sub); (focus lcg_sub))
  | ((with_reducible apply Rv.k_rng1); (focus omega))
  | ((with_reducible apply Rv.k_rng2); (focus omega))
  | (with_reducible apply Rv.k_its)
  | (with_reducible apply Rv.r_retN)
  | (with_reducible apply Rv.r_next)
  | (with_reducible apply Rv.r_setF)
  | (with_reducible apply Rv.r_dput)
  | (with_reducible apply Rv.r_setI)
  | (with_reducible apply Rv.r_raise)
  | (with_reducible apply Rv.r_wF)
  | (with_reducible apply Rv.k_ifTT)
  | (with_reducible apply Rv.k_ifFF)
  | (with_reducible apply Rv.k_ifNT)
  | (with_reducible apply Rv.k_ifNF)
  | (with_reducible apply Rv.k_andNT)
  | (with_reducible apply Rv.k_andNF)
  | (with_reducible apply Rv.k_orNT)
  | (with_reducible apply Rv.k_orNF)
  | (with_reducible apply Rv.k_andVNT)
  | (with_reducible apply Rv.k_andVNF)
  | (with_reducible apply Rv.k_orVNT)
  | (with_reducible apply Rv.k_orVNF)
  | (with_reducible apply Rv.k_isB_ii)
  | (with_reducible apply Rv.k_isB_ib)
  | (with_reducible apply Rv.k_isB_bi)
  | (with_reducible apply Rv.k_isB_bb)
  | (with_reducible apply Rv.k_isB_ni)
  | (with_reducible apply Rv.k_isB_ss)
  | ((with_reducible apply Rv.k_isB_ll); (focus lcg_sub))
  | ((with_reducible apply Rv.k_isB_tt); (focus lcg_sub))
  | (with_reducible apply Rv.r_mk)
  | (with_reducible apply Rv.r_rg1)
  | (with_reducible apply Rv.k_rg1)
  | (with_reducible apply Rv.r_dpop1)
  | (with_reducible apply Rv.k_ifNNT)
  | (with_reducible apply Rv.k_ifNNF)
  | (with_reducible apply Rv.r_dropE)
  | (with_reducible apply Rv.r_dropR)
  | (with_reducible apply Rv.r_dropN)
  | (with_reducible apply Rv.r_dropM))
namespace Rv
open PySem L2
/-! ### the laws' common helpers -/
def cell (s : List Int) (k : Int) : Int := s.getD k.toNat 0
theorem at_int {ns : List Int} {k : Nat} (h : k < ns.length) : atI (ns.map V.int) (k : Int) = some (.int (ns.getD k 0)) := by
  refine atI_nat ?_
  rw [List.getElem?_map, List.getD_eq_getElem?_getD]
  have : ns[k]? = some ns[k] := by simp [h]
  rw [this]
  rfl
theorem at_nV {ns : List Nat} {k : Nat} (h : k < ns.length) : atI (ns.map nV) (k : Int) = some (nV (ns.getD k 0)) := by
  refine atI_nat ?_
  rw [List.getElem?_map, List.getD_eq_getElem?_getD]
  have : ns[k]? = some ns[k] := by simp [h]
  rw [this]
  rfl
theorem ixN_at {n j : Nat} (h : j < n) : ixN n (j : Int) = some j := by
  unfold ixN
  rw [if_pos (by omega), if_pos (by omega), Int.toNat_natCast]
theorem ixN_0 {n : Nat} (h : 0 < n) : ixN n 0 = some 0 := ixN_at (j := 0) h
theorem ixN_last {n : Nat} (h : 0 < n) : ixN n (-1) = some (n - 1) := by
  unfold ixN
  rw [if_neg (by omega), if_pos (by omega)]
  congr 1
  omega
def sp_l_cell_at (c : Cs) : Sp := fun vs H Q E => ∃ (a : Addr) (ns : List Int) (k : Int), vs = [.ref a, .int k] ∧ SqL c.K H a (ns.map V.int) ∧ 0 ≤ k ∧ Q (.int (cell ns k)) H
def sp_l_whole (c : Cs) : Sp := fun vs H Q E => (∃ n, vs = [.int n] ∧ Q (.bl true) H)
def sp_l_same (c : Cs) : Sp := fun vs H Q E => ∃ (a b : Addr) (ns ms : List Int), vs = [.ref a, .ref b] ∧ H a = some (.lst (ns.map V.int)) ∧ SqL c.K H b (ms.map V.int) ∧ ms.length ≤ 1000 ∧ Q (.bl (decide (ns = ms))) H
/-- the points below, read off the script -/
def belM (s : List Int) (st : Int) (n : Nat) : List Nat := (List.range (n - 1)).map fun (i : Nat) => (cell s (st + (1 + (i : Int))) % (1 + (i : Int))).toNat
theorem belM_len (s : List Int) (st : Int) (n : Nat) : (belM s st n).length = n - 1 := by
  unfold belM
  rw [List.length_map, List.length_range]
theorem belM_riv (s : List Int) (st : Int) {n : Nat} (h : n ≤ 40) : Riv (belM s st n) := by
  refine ⟨by rw [belM_len]; omega, fun i hi => ?_⟩
  rw [belM_len] at hi
  unfold belM
  rw [List.getD_eq_getElem?_getD, List.getElem?_map, List.getElem?_range hi]
  show (cell s (st + (1 + (i : Int))) % (1 + (i : Int))).toNat ≤ i
  have h1 := Int.emod_lt_of_pos (cell s (st + (1 + (i : Int)))) (show (0 : Int) < 1 + (i : Int) by omega)
  omega
def sp_l_below (c : Cs) : Sp := fun vs H Q E => ∃ (a : Addr) (ns : List Int) (st n : Int), vs = [.ref a, .int st, .int n] ∧ SqL c.K H a (ns.map V.int) ∧ 0 ≤ st ∧ 1 ≤ n ∧ n ≤ 1000 ∧
  ∀ p H', H p = none → Ext H H' → H' p = some (.lst (belV (belM ns st n.toNat))) → Q (.ref p) H'
def sp_l_way (c : Cs) : Sp := fun vs H Q E => ∃ b B p, vs = [.ref b, nV p] ∧ SqL c.K H b (belV B) ∧ Riv B ∧ p ≤ B.length ∧
  ∀ a H', H a = none → Ext H H' → H' a = some (.lst ((wayM B p).map nV)) → Q (.ref a) H'
-- l_cell_at: 0 script 1 k
def t_l_cell_at (c : Cs) (E : XK) : TS :=
  (tSeq (tIfS (tTest (tOp rLtI (tVar 1) (tCB (rLenS c.K) (tCons (tVar 0) tNil)))) (tRet (tOp (rIxL c.K) (tVar 0) (tVar 1))) tNext)
  (tRet (tC (.int 0))))
-- l_whole: 0 found
def t_l_whole (c : Cs) (E : XK) : TS :=
  (tRet (tAndV (tCB (rIsB c.K "int") (tCons (tVar 0) (tCons (tC (.ty "int")) tNil))) (tNotV (tCB (rIsB c.K "bool") (tCons (tVar 0) (tCons (tC (.ty "bool")) tNil))))))
-- l_same: 0 found 1 due 2 k
def t_l_same (c : Cs) (E : XK) : TS :=
  (tSeq (tIfS (tOr (tNot (tB (tCB (rIsB c.K "list") (tCons (tVar 0) (tCons (tC (.ty "list")) tNil))))) (tTest (tOp rNe (tCB (rLenS c.K) (tCons (tVar 0) tNil)) (tCB (rLenS c.K) (tCons (tVar 1) tNil))))) (tRet (tC (.bl false))) tNext)
  (tSeq (tFor (iRng1 (tCons (tCB (rLenS c.K) (tCons (tVar 1) tNil)) tNil)) (gName 2)
  (tIfS (tOr (tNot (tB (tFn (sp_l_whole c) (wF E) (tCons (tOp (rIxL c.K) (tVar 0) (tVar 2)) tNil)))) (tTest (tOp rNe (tOp (rIxL c.K) (tVar 0) (tVar 2)) (tOp (rIxL c.K) (tVar 1) (tVar 2))))) (tRet (tC (.bl false))) tNext))
  (tRet (tC (.bl true)))))
-- l_below: 0 script 1 start 2 size 3 k
def t_l_below (c : Cs) (E : XK) : TS :=
  (tRet (tOp rCat (tLst (tCons (tC .non) tNil)) (tLc (iRng2 (tCons (tC (.int 1)) (tCons (tVar 2) tNil))) (gName 3) tYes (tOp rModI (tFn (sp_l_cell_at c) wN (tCons (tVar 0) (tCons (tOp rAddI (tVar 1) (tVar 3)) tNil))) (tVar 3)) [3])))
-- l_way: 0 below 1 point 2 found
def t_l_way (c : Cs) (E : XK) : TS :=
  (tSeq (tAsg (tLst tNil) (gName 2))
  (tSeq (tWhile (tTest (tOp rNotNon (tVar 1) (tC .non))) (tSeq (tDrop (tBM c.K "list" rAppend (tVar 2) (tCons (tVar 1) tNil)))
  (tAsg (tOp (rIxL c.K) (tVar 0) (tVar 1)) (gName 1))))
  (tRet (tVar 2))))
section
variable {c : Cs}
theorem pure_l_cell_at (vs : List V) (H : Hp) (Q : VK) (E : XK) (h : sp_l_cell_at c vs H Q E) : t_l_cell_at c E { nx := fun _ H' => Q .non H', rt := Q } (start ["script", "k"] vs) H := by
  obtain ⟨a, ns, k, rfl, hs, hk, q⟩ := h
  obtain ⟨n, rfl⟩ := Int.eq_ofNat_of_zero_le hk
  unfold t_l_cell_at
  repeat lcg_off
  rw [List.length_map]
  refine k_ifD (fun h1 => ?_) (fun h1 => ?_)
  · repeat lcg_off
    exact k_ixL hs (at_int (by omega)) q
  · repeat lcg_off
    have e : cell ns (n : Int) = 0 := by
      unfold cell
      rw [Int.toNat_natCast, List.getD_eq_getElem?_getD, List.getElem?_eq_none (by omega)]
      rfl
    rw [e] at q
    exact q
theorem pure_l_whole (vs : List V) (H : Hp) (Q : VK) (E : XK) (h : sp_l_whole c vs H Q E) : t_l_whole c E { nx := fun _ H' => Q .non H', rt := Q } (start ["found"] vs) H := by
  obtain ⟨n, rfl, q⟩ := h
  unfold t_l_whole
  repeat lcg_off
  exact q
theorem pure_l_same (vs : List V) (H : Hp) (Q : VK) (E : XK) (h : sp_l_same c vs H Q E) : t_l_same c E { nx := fun _ H' => Q .non H', rt := Q } (start ["found", "due", "k"] vs) H := by
  obtain ⟨a, b, ns, ms, rfl, ha, hb, hl, q⟩ := h
  unfold t_l_same
  repeat lcg_off
  rw [List.length_map, List.length_map]
  refine k_ifN (fun h1 => ?_) (fun h1 => ?_)
  · repeat lcg_off
    rw [decide_eq_false (fun e => h1 (by rw [e]))] at q
    exact q
  · repeat lcg_off
    rw [List.length_map]
    refine k_rng1 (by omega) ?_
    refine k_forR (fun i σ H' => (∃ v, σ = [some (.ref a), some (.ref b), v]) ∧ H' = H ∧ ∀ j, j < i → ns[j]? = ms[j]?) ⟨⟨_, rfl⟩, rfl, fun j hj => absurd hj (Nat.not_lt_zero _)⟩ ?_ ?_
    · rintro i σ H' hi ⟨⟨v, rfl⟩, rfl, hj⟩
      rw [Int.toNat_natCast] at hi
      rw [Int.zero_add]
      show tIfS _ _ _ _ [some (.ref a), some (.ref b), some (.int (i : Int))] _
      repeat lcg_off
      refine k_ixL (by lcg_sub) (at_int (by omega)) ?_
      repeat lcg_off
      refine ⟨_, rfl, ?_⟩
      repeat lcg_off
      refine k_ixL (by lcg_sub) (at_int (by omega)) ?_
      repeat lcg_off
      refine k_ixL (by lcg_sub) (at_int (by omega)) ?_
      repeat lcg_off
      have g1 : ns[i]? = some (ns.getD i 0) := by
        rw [List.getD_eq_getElem?_getD]
        simp [show i < ns.length by omega]
      have g2 : ms[i]? = some (ms.getD i 0) := by
        rw [List.getD_eq_getElem?_getD]
        simp [show i < ms.length by omega]
      refine k_ifN (fun h2 => ?_) (fun h2 => ?_)
      · repeat lcg_off
        rw [decide_eq_false (fun e => h2 (by rw [e]))] at q
        exact q
      · repeat lcg_off
        refine ⟨⟨_, rfl⟩, rfl, fun j hj' => ?_⟩
        by_cases ej : j = i
        · subst ej
          rw [g1, g2, h2]
        · exact hj j (by omega)
    · rintro σ H' ⟨⟨v, rfl⟩, rfl, hj⟩
      repeat lcg_off
      have e : ns = ms := List.ext_getElem? fun j => by
        by_cases hj' : j < ms.length
        · exact hj j (by omega)
        · rw [List.getElem?_eq_none (by omega), List.getElem?_eq_none (by omega)]
      rw [decide_eq_true e] at q
      exact q
theorem pure_l_below (vs : List V) (H : Hp) (Q : VK) (E : XK) (h : sp_l_below c vs H Q E) : t_l_below c E { nx := fun _ H' => Q .non H', rt := Q } (start ["script", "start", "size", "k"] vs) H := by
  obtain ⟨a, ns, st, n, rfl, hs, h0, h1, h2, q⟩ := h
  unfold t_l_below
  repeat lcg_off
  intro p H1 hp e1 h3
  repeat lcg_off
  refine k_lcR (fun _ => true) (fun i => nV (cell ns (st + (1 + (i : Int))) % (1 + (i : Int))).toNat) (fun x => rfl) (by omega) (fun i hi H2 ac QB q => ?_) (fun i hi hp H2 ac Q1 q => ?_) (fun D H2 hD e hd => ?_)
  · repeat lcg_off
    exact q H2 (Ext.refl _)
  · repeat lcg_off
    refine ⟨a, ns, _, rfl, by lcg_sub, by omega, ?_⟩
    repeat lcg_off
    have e : ((cell ns (st + (1 + (i : Int))) % (1 + (i : Int))).toNat : Int) = cell ns (st + (1 + (i : Int))) % (1 + (i : Int)) := Int.toNat_of_nonneg (Int.emod_nonneg _ (by omega))
    have q' := q H2 (Ext.refl _)
    dsimp only [nV] at q'
    rw [e] at q'
    exact q'
  · have hlen : (([V.non] : List V).length + (((List.range (n - 1).toNat).filter fun _ => true).map fun (i : Nat) => nV (cell ns (st + (1 + (i : Int))) % (1 + (i : Int))).toNat).length) ≤ 100000 := by
      rw [filter_yes, List.length_map, List.length_range, List.length_cons, List.length_nil]
      omega
    refine k_cat (by lcg_sub) (by lcg_sub) (sz_le hlen) fun p2 H3 hp2 e2 h4 => ?_
    refine q p2 H3 (e1.free (e.free hp2)) ((e1.trans e).trans e2) ?_
    rw [h4, filter_yes]
    unfold belV belM
    have e3 : (n - 1).toNat = n.toNat - 1 := by omega
    rw [List.map_map, e3]
    rfl
theorem pure_l_way (vs : List V) (H : Hp) (Q : VK) (E : XK) (h : sp_l_way c vs H Q E) : t_l_way c E { nx := fun _ H' => Q .non H', rt := Q } (start ["below", "point", "found"] vs) H := by
  obtain ⟨b, B, p, rfl, hb, hB, hp, k⟩ := h
  unfold t_l_way
  repeat lcg_off
  intro a H1 ha e1 h1
  repeat lcg_off
  refine r_while (fun m σ H' => ∃ pre o, σ = [some (.ref b), some (oN o), some (.ref a)] ∧ Ac H H' ∧ H' a = some (.lst (List.map nV pre)) ∧ pre ++ restM B o = wayM B p ∧ (∀ q, o = some q → q ≤ B.length) ∧ m = sizeO o) (m0 := p + 1) ?_ ?_ ?_
  · exact ⟨[], some p, rfl, e1.ac, h1, rfl, fun q e => by cases e; omega, rfl⟩
  · rintro m σ H' ⟨pre, o, rfl, ac, hp', hw, ho, rfl⟩
    cases o with
    | none =>
      show tTest _ [some (.ref b), some .non, some (.ref a)] _ _
      repeat lcg_off
      have : pre = wayM B p := by rw [← hw]; exact (List.append_nil _).symm
      subst this
      exact k a H' ha ac.ext hp'
    | some q =>
      have hq := ho q rfl
      have hlen : pre.length ≤ 1000 := by
        have h1 := congrArg List.length hw
        rw [List.length_append] at h1
        have := wayM_len (B := B) p
        have := hB.few
        omega
      show tTest _ [some (.ref b), some (.int (q : Int)), some (.ref a)] _ _
      repeat lcg_off
      intro H2 b2 h2
      repeat lcg_off
      refine k_ixL ((ac.but b2 (by lcg_sub)).sq hb) (belV_at hq) ?_
      refine ⟨sizeO (nextM B q), ?_, pre ++ [q], nextM B q, ?_, ac.but b2 (by lcg_sub), ?_, ?_, fun m e => (next_le hB hq e).2, rfl⟩
      · cases e : nextM B q with
        | none => exact Nat.succ_pos _
        | some m =>
          have := (next_le hB hq e).1
          show m + 1 < q + 1
          omega
      · rw [oN_next]
        rfl
      · rw [h2, List.map_append]
        rfl
      · rw [← hw, List.append_assoc]
        show pre ++ (q :: restM B (nextM B q)) = pre ++ wayM B q
        rw [← rest_next hB hq]
  · intro σ' H' Q1 Q2 hQ h
    exact h.imp fun v hv => ⟨hv.1, ⟨hv.2.1, hv.2.2.imp fun b hb => ⟨hb.1, hQ _ _ hb.2⟩⟩⟩
end
end Rv

end
section
local macro_rules | `(tactic| lcg_src) => `(tactic| first
  | assumption
  | (with_reducible exact Rv.lk_here)
  | (refine (Rv.lk_past (by decide +kernel)).trans ?_; lcg_src)
  | (with_unfolding_all exact rfl))
local macro_rules | `(tactic| keq_hits) => `(tactic| first
  | assumption
  | ((with_reducible apply Rv.Ext.hl); (focus assumption); (focus keq_hits))
  | ((with_reducible apply Rv.But.hl); (focus assumption); (focus keq_hits); (focus keq_hits))
  | ((with_reducible apply Rv.Ac.hl); (focus assumption); (focus keq_hits))
  | ((with_reducible apply L2.SqL.of); (focus assumption))
  | ((with_reducible apply Rv.Ext.sq); (focus assumption); (focus keq_hits))
  | ((with_reducible apply Rv.But.sq); (focus assumption); (focus keq_hits); (focus keq_hits))
  | ((with_reducible apply Rv.Ac.sq); (focus assumption); (focus keq_hits))
  | ((with_reducible apply L2.SqT.of); (focus assumption))
  | ((with_reducible apply Rv.Ext.st); (focus assumption); (focus keq_hits))
  | ((with_reducible apply Rv.But.st); (focus assumption); (focus keq_hits); (focus keq_hits))
  | ((with_reducible apply Rv.Ac.st); (focus assumption); (focus keq_hits))
  | ((with_reducible apply L2.Rd.of); (focus keq_hits))
  | ((with_reducible apply Rv.RivAt.ext); (focus assumption); (focus keq_hits))
  | ((with_reducible apply Rv.RivAt.but); (focus assumption); (focus keq_hits); (focus keq_hits); (focus keq_hits))
  | ((with_reducible apply Rv.RivAt.ac); (focus assumption); (focus keq_hits))
  | (with_reducible apply Rv.nin_nil)
  | ((with_reducible apply Rv.BokAt.ext); (focus assumption); (focus keq_hits))
  | ((with_reducible apply Rv.DicAt.ne); (focus assumption); (focus assumption); (focus (intro _ z; cases z)))
  | ((with_reducible apply Rv.DicAt.nf); (focus assumption); (focus assumption))
  | ((with_reducible apply Rv.Ext.tup); (focus assumption))
  | ((with_reducible apply Rv.Ac.tup); (focus assumption))
  | ((with_reducible apply Rv.nin_cons); (focus keq_hits); (focus keq_hits))
  | (with_reducible apply Rv.frs_nil)
  | ((with_reducible apply Rv.frs_cons); (focus keq_hits); (focus keq_hits))
  | ((with_reducible apply Ne.symm); (focus assumption))
  | ((with_reducible apply Rv.ne_nf); (focus assumption); (focus assumption))
  | ((with_reducible apply Rv.ne_fn); (focus assumption); (focus assumption))
  | ((with_reducible apply Rv.ne_k1); (focus assumption); (focus assumption); (focus (first | (intro z; cases z; done) | ((with_reducible apply Rv.ins_ne); intro z; cases z; done))))
  | ((with_reducible apply Rv.ne_k2); (focus assumption); (focus assumption); (focus (first | (intro z; cases z; done) | ((with_reducible apply Rv.ins_ne); intro z; cases z; done))))
  | ((with_reducible apply Rv.free2); (focus assumption); (focus assumption))
  | (with_reducible apply Rv.Ac.refl)
  | ((with_reducible apply Rv.Ac.step'); (focus assumption); (focus keq_hits))
  | ((with_reducible apply Rv.Ac.but'); (focus assumption); (focus keq_hits); (focus keq_hits))
  | (with_reducible apply Rv.Ext.refl)
  | ((with_reducible apply Rv.Ac.ext); (focus keq_hits))
  | ((with_reducible apply Rv.sz_le); first | omega | (simp only [List.length_cons, List.length_nil, List.length_map, List.length_append]; omega))
  | ((with_reducible apply Rv.sz_lt); first | omega | (simp only [List.length_cons, List.length_nil, List.length_map, List.length_append]; omega)))
local macro_rules | `(tactic| kln_le) => `(tactic| first
  | assumption
  | ((with_reducible apply Rv.Ext.hl); (focus assumption); (focus kln_le))
  | ((with_reducible apply Rv.But.hl); (focus assumption); (focus kln_le); (focus kln_le))
  | ((with_reducible apply Rv.Ac.hl); (focus assumption); (focus kln_le))
  | ((with_reducible apply L2.SqL.of); (focus assumption))
  | ((with_reducible apply Rv.Ext.sq); (focus assumption); (focus kln_le))
  | ((with_reducible apply Rv.But.sq); (focus assumption); (focus kln_le); (focus kln_le))
  | ((with_reducible apply Rv.Ac.sq); (focus assumption); (focus kln_le))
  | ((with_reducible apply L2.SqT.of); (focus assumption))
  | ((with_reducible apply Rv.Ext.st); (focus assumption); (focus kln_le))
  | ((with_reducible apply Rv.But.st); (focus assumption); (focus kln_le); (focus kln_le))
  | ((with_reducible apply Rv.Ac.st); (focus assumption); (focus kln_le))
  | ((with_reducible apply L2.Rd.of); (focus kln_le))
  | ((with_reducible apply Rv.RivAt.ext); (focus assumption); (focus kln_le))
  | ((with_reducible apply Rv.RivAt.but); (focus assumption); (focus kln_le); (focus kln_le); (focus kln_le))
  | ((with_reducible apply Rv.RivAt.ac); (focus assumption); (focus kln_le))
  | (with_reducible apply Rv.nin_nil)
  | ((with_reducible apply Rv.BokAt.ext); (focus assumption); (focus kln_le))
  | ((with_reducible apply Rv.DicAt.ne); (focus assumption); (focus keq_hits); (focus (intro _ z; cases z)))
  | ((with_reducible apply Rv.DicAt.nf); (focus assumption); (focus keq_hits))
  | ((with_reducible apply Rv.Ext.tup); (focus assumption))
  | ((with_reducible apply Rv.Ac.tup); (focus assumption))
  | ((with_reducible apply Rv.nin_cons); (focus kln_le); (focus kln_le))
  | (with_reducible apply Rv.frs_nil)
  | ((with_reducible apply Rv.frs_cons); (focus kln_le); (focus kln_le))
  | ((with_reducible apply Ne.symm); (focus assumption))
  | ((with_reducible apply Rv.ne_nf); (focus assumption); (focus keq_hits))
  | ((with_reducible apply Rv.ne_fn); (focus assumption); (focus keq_hits))
  | ((with_reducible apply Rv.ne_k1); (focus assumption); (focus keq_hits); (focus (first | (intro z; cases z; done) | ((with_reducible apply Rv.ins_ne); intro z; cases z; done))))
  | ((with_reducible apply Rv.ne_k2); (focus assumption); (focus keq_hits); (focus (first | (intro z; cases z; done) | ((with_reducible apply Rv.ins_ne); intro z; cases z; done))))
  | ((with_reducible apply Rv.free2); (focus assumption); (focus keq_hits))
  | (with_reducible apply Rv.Ac.refl)
  | ((with_reducible apply Rv.Ac.step'); (focus assumption); (focus kln_le))
  | ((with_reducible apply Rv.Ac.but'); (focus assumption); (focus kln_le); (focus kln_le))
  | (with_reducible apply Rv.Ext.refl)
  | ((with_reducible apply Rv.Ac.ext); (focus kln_le))
  | ((with_reducible apply Rv.sz_le); first | omega | (simp only [List.length_cons, List.length_nil, List.length_map, List.length_append]; omega))
  | ((with_reducible apply Rv.sz_lt); first | omega | (simp only [List.length_cons, List.length_nil, List.length_map, List.length_append]; omega)))
local macro_rules | `(tactic| lcg_sub) => `(tactic| first
  | assumption
  | ((with_reducible apply Rv.Ext.hl); (focus assumption); (focus lcg_sub))
  | ((with_reducible apply Rv.But.hl); (focus assumption); (focus lcg_sub); (focus lcg_sub))
  | ((with_reducible apply Rv.Ac.hl); (focus assumption); (focus lcg_sub))
  | ((with_reducible apply L2.SqL.of); (focus assumption))
  | ((with_reducible apply Rv.Ext.sq); (focus assumption); (focus lcg_sub))
  | ((with_reducible apply Rv.But.sq); (focus assumption); (focus lcg_sub); (focus lcg_sub))
  | ((with_reducible apply Rv.Ac.sq); (focus assumption); (focus lcg_sub))
  | ((with_reducible apply L2.SqT.of); (focus assumption))
  | ((with_reducible apply Rv.Ext.st); (focus assumption); (focus lcg_sub))
  | ((with_reducible apply Rv.But.st); (focus assumption); (focus lcg_sub); (focus lcg_sub))
  | ((with_reducible apply Rv.Ac.st); (focus assumption); (focus lcg_sub))
  | ((with_reducible apply L2.Rd.of); (focus lcg_sub))
  | ((with_reducible apply Rv.RivAt.ext); (focus assumption); (focus lcg_sub))
  | ((with_reducible apply Rv.RivAt.but); (focus assumption); (focus lcg_sub); (focus lcg_sub); (focus lcg_sub))
  | ((with_reducible apply Rv.RivAt.ac); (focus assumption); (focus lcg_sub))
  | (with_reducible apply Rv.nin_nil)
  | ((with_reducible apply Rv.BokAt.ext); (focus assumption); (focus lcg_sub))
  | ((with_reducible apply Rv.DicAt.ne); (focus assumption); (focus kln_le); (focus (intro _ z; cases z)))
  | ((with_reducible apply Rv.DicAt.nf); (focus assumption); (focus kln_le))
  | ((with_reducible apply Rv.Ext.tup); (focus assumption))
  | ((with_reducible apply Rv.Ac.tup); (focus assumption))
  | ((with_reducible apply Rv.nin_cons); (focus lcg_sub); (focus lcg_sub))
  | (with_reducible apply Rv.frs_nil)
  | ((with_reducible apply Rv.frs_cons); (focus lcg_sub); (focus lcg_sub))
  | ((with_reducible apply Ne.symm); (focus assumption))
  | ((with_reducible apply Rv.ne_nf); (focus assumption); (focus kln_le))
  | ((with_reducible apply Rv.ne_fn); (focus assumption); (focus kln_le))
  | ((with_reducible apply Rv.ne_k1); (focus assumption); (focus kln_le); (focus (first | (intro z; cases z; done) | ((with_reducible apply Rv.ins_ne); intro z; cases z; done))))
  | ((with_reducible apply Rv.ne_k2); (focus assumption); (focus kln_le); (focus (first | (intro z; cases z; done) | ((with_reducible apply Rv.ins_ne); intro z; cases z; done))))
  | ((with_reducible apply Rv.free2); (focus assumption); (focus kln_le))
  | (with_reducible apply Rv.Ac.refl)
  | ((with_reducible apply Rv.Ac.step'); (focus assumption); (focus lcg_sub))
  | ((with_reducible apply Rv.Ac.but'); (focus assumption); (focus lcg_sub); (focus lcg_sub))
  | (with_reducible apply Rv.Ext.refl)
  | ((with_reducible apply Rv.Ac.ext); (focus lcg_sub))
  | ((with_reducible apply Rv.sz_le); first | omega | (simp only [List.length_cons, List.length_nil, List.length_map, List.length_append]; omega))
  | ((with_reducible apply Rv.sz_lt); first | omega | (simp only [List.length_cons, List.length_nil, List.length_map, List.length_append]; omega)))
local macro_rules | `(tactic| lcg_off) => `(tactic| first
  | (with_reducible apply Rv.r_seq)
  | (with_reducible apply Rv.r_asg)
  | (with_reducible apply Rv.r_op)
  | ((with_reducible apply Rv.r_var); (focus with_unfolding_all rfl))
  | (with_reducible apply Rv.r_c)
  | (with_reducible apply Rv.r_if)
  | (with_reducible apply Rv.r_test)
  | (with_reducible apply Rv.r_fld)
  | (with_reducible apply Rv.r_cons)
  | (with_reducible apply Rv.r_nil)
  | (with_reducible apply Rv.r_ret)
  | (with_reducible apply Rv.r_drop)
  | (with_reducible apply Rv.r_meth)
  | (with_reducible apply Rv.r_fn)
  | (with_reducible apply Rv.r_CB)
  | (with_reducible apply Rv.r_BM)
  | (with_reducible apply Rv.r_BM0)
  | (with_reducible apply Rv.k_bl)
  | (with_reducible apply Rv.r_not)
  | (with_reducible apply Rv.r_and)
  | (with_reducible apply Rv.r_or)
  | (with_reducible apply Rv.k_andT)
  | (with_reducible apply Rv.k_andF)
  | (with_reducible apply Rv.k_orT)
  | (with_reducible apply Rv.k_orF)
  | (with_reducible apply Rv.r_tB)
  | (with_reducible apply Rv.r_chain)
  | (with_reducible apply Rv.r_un)
  | (with_reducible apply Rv.r_tup)
  | (with_reducible apply Rv.r_lst)
  | (with_reducible apply Rv.r_andV)
  | (with_reducible apply Rv.r_orV)
  | (with_reducible apply Rv.r_notV)
  | (with_reducible apply Rv.r_ifE)
  | (with_reducible apply Rv.k_notV)
  | (with_reducible apply Rv.k_andVT)
  | (with_reducible apply Rv.k_andVF)
  | (with_reducible apply Rv.k_orVT)
  | (with_reducible apply Rv.k_orVF)
  | (with_reducible apply Rv.k_addI)
  | (with_reducible apply Rv.k_subI)
  | ((with_reducible apply Rv.k_mulI); (focus (unfold L2.CMul; omega)))
  | ((with_reducible apply Rv.k_divI); (focus (unfold L2.CDiv; omega)))
  | ((with_reducible apply Rv.k_modI); (focus omega))
  | ((with_reducible apply Rv.k_powI); (focus (unfold L2.CPow; decide)))
  | (with_reducible apply Rv.k_negI)
  | (with_reducible apply Rv.k_ltI)
  | (with_reducible apply Rv.k_leI)
  | (with_reducible apply Rv.k_gtI)
  | (with_reducible apply Rv.k_geI)
  | (with_reducible apply Rv.k_eqI)
  | (with_reducible apply Rv.k_neI)
  | (with_reducible apply Rv.k_eqS)
  | (with_reducible apply Rv.k_neS)
  | (with_reducible apply Rv.k_isNN)
  | (with_reducible apply Rv.k_isNI)
  | (with_reducible apply Rv.k_isNR)
  | (with_reducible apply Rv.k_notNN)
  | (with_reducible apply Rv.k_notNI)
  | (with_reducible apply Rv.k_notNR)
  | ((with_reducible apply Rv.k_tyL); (focus lcg_sub))
  | ((with_reducible apply Rv.k_ixT); (focus lcg_sub); (focus with_unfolding_all rfl))
  | ((with_reducible apply Rv.k_ixL); (focus lcg_sub); (focus with_unfolding_all rfl))
  | ((with_reducible apply Rv.k_lenL); (focus lcg_sub))
  | ((with_reducible apply Rv.k_lenU); (focus lcg_sub))
  | ((with_reducible apply Rv.k_tup); (focus lcg_sub))
  | ((with_reducible apply Rv.k_lst); (focus lcg_sub))
  | ((with_reducible apply Rv.k_list); (focus lcg_sub))
  | ((with_reducible apply Rv.k_append); (focus lcg_sub); (focus lcg_sub))
  | ((with_reducible apply Rv.k_cat); (focus lcg_sub); (focus lcg_sub); (focus lcg_sub))
  | ((with_reducible apply Rv.k_clear); (focus lcg_sub))
  | (with_reducible apply Rv.k_int1)
  | (with_reducible apply Rv.k_max2)
  | (with_reducible apply Rv.k_min2)
  | (with_reducible apply Rv.k_str)
  | (with_reducible apply Rv.k_part)
  | (with_reducible apply Rv.r_M1)
  | (with_reducible apply Rv.r_dget)
  | (with_reducible apply Rv.r_din)
  | (with_reducible apply Rv.r_dnotin)
  | (with_reducible apply Rv.r_dget2)
  | (with_reducible apply Rv.r_sl)
  | (with_reducible apply Rv.r_nopart)
  | (with_reducible apply Rv.r_part)
  | (with_reducible apply Rv.r_for)
  | (with_reducible apply Rv.r_lc)
  | (with_reducible apply Rv.r_yes)
  | (with_reducible apply Rv.r_iList)
  | (with_reducible apply Rv.r_iRng1)
  | (with_reducible apply Rv.r_iRng2)
  | (with_reducible apply Rv.r_iZip)
  | (with_reducible apply Rv.r_iStr)
  | (with_reducible apply Rv.r_iKeys)
  | (with_reducible apply Rv.r_lstRg)
  | ((with_reducible apply Rv.k_itl); (focus lcg_sub))
  | ((with_reducible apply Rv.k_zip); (focus lcg_sub); (focus lcg_sub))
  | ((with_reducible apply Rv.k_rng1); (focus omega))
  | ((with_reducible apply Rv.k_rng2); (focus omega))
  | (with_reducible apply Rv.k_its)
  | (with_reducible apply Rv.r_retN)
  | (with_reducible apply Rv.r_next)
  | (with_reducible apply Rv.r_setF)
  | (with_reducible apply Rv.r_dput)
  | (with_reducible apply Rv.r_setI)
  | (with_reducible apply Rv.r_raise)
  | (with_reducible apply Rv.r_wF)
  | (with_reducible apply Rv.k_ifTT)
  | (with_reducible apply Rv.k_ifFF)
  | (with_reducible apply Rv.k_ifNT)
  | (with_reducible apply Rv.k_ifNF)
  | (with_reducible apply Rv.k_andNT)
  | (with_reducible apply Rv.k_andNF)
  | (with_reducible apply Rv.k_orNT)
  | (with_reducible apply Rv.k_orNF)
  | (with_reducible apply Rv.k_andVNT)
  | (with_reducible apply Rv.k_andVNF)
  | (with_reducible apply Rv.k_orVNT)
  | (with_reducible apply Rv.k_orVNF)
  | (with_reducible apply Rv.k_isB_ii)
  | (with_reducible apply Rv.k_isB_ib)
  | (with_reducible apply Rv.k_isB_bi)
  | (with_reducible apply Rv.k_isB_bb)
  | (with_reducible apply Rv.k_isB_ni)
  | (with_reducible apply Rv.k_isB_ss)
  | ((with_reducible apply Rv.k_isB_ll); (focus lcg_sub))
  | ((with_reducible apply Rv.k_isB_tt); (focus lcg_sub))
  | (with_reducible apply Rv.r_mk)
  | (with_reducible apply Rv.r_rg1)
  | (with_reducible apply Rv.k_rg1)
  | (with_reducible apply Rv.r_dpop1)
  | (with_reducible apply Rv.k_ifNNT)
  | (with_reducible apply Rv.k_ifNNF)
  | (with_reducible apply Rv.r_dropE)
  | (with_reducible apply Rv.r_dropR)
  | (with_reducible apply Rv.r_dropN)
  | (with_reducible apply Rv.r_dropM))
namespace Rv
open PySem L2
/-! ### data compared as a whole -/
def laid (d : PyData) (n : Nat) : Prop := d.canLay0 = true ∧ d.depth ≤ n
theorem laid_none : laid .none 0 := ⟨by simp only [PyData.canLay0], by simp only [PyData.depth]; exact Nat.le_refl _⟩
theorem laid_int (i : Int) : laid (.int i) 0 := ⟨by simp only [PyData.canLay0], by simp only [PyData.depth]; exact Nat.le_refl _⟩
theorem laid_mono {d : PyData} {n m : Nat} (h : laid d n) (hm : n ≤ m) : laid d m := ⟨h.1, Nat.le_trans h.2 hm⟩
theorem laid_all {n : Nat} : ∀ {ds : List PyData}, (∀ d ∈ ds, laid d n) → PyData.canLayAll0 ds = true ∧ PyData.depthAll ds ≤ n
  | [], _ => ⟨by simp only [PyData.canLayAll0], by simp only [PyData.depthAll]; exact Nat.zero_le _⟩
  | d :: ds, h => by
    have h1 := h d List.mem_cons_self
    have h2 := laid_all (n := n) (ds := ds) fun e he => h e (List.mem_cons_of_mem _ he)
    refine ⟨?_, ?_⟩
    · simp only [PyData.canLayAll0, h1.1, h2.1, Bool.and_self]
    · simp only [PyData.depthAll]
      exact Nat.max_le.mpr ⟨h1.2, h2.2⟩
theorem laid_list {n : Nat} {ds : List PyData} (h : ∀ d ∈ ds, laid d n) : laid (.list ds) (n + 1) := by
  have := laid_all h
  exact ⟨by simp only [PyData.canLay0, this.1], by simp only [PyData.depth]; exact Nat.succ_le_succ this.2⟩
theorem laid_tup {n : Nat} {ds : List PyData} (h : ∀ d ∈ ds, laid d n) : laid (.tuple ds) (n + 1) := by
  have := laid_all h
  exact ⟨by simp only [PyData.canLay0, this.1], by simp only [PyData.depth]; exact Nat.succ_le_succ this.2⟩
theorem laid_shaped {n : Nat} {d : PyData} (h : laid d n) (hn : n ≤ 64) : SeqAt.shaped d = true := by
  unfold SeqAt.shaped
  rw [h.1, decide_eq_true (Nat.le_trans h.2 hn)]
  rfl
/-- a flat value's data -/
def dV : V → PyData
  | .bl b => .bool b
  | .int i => .int i
  | .str x => .str x
  | _ => .none
section
variable {K : PySem.W.Frag} {H : Hp} {Q : VK}
theorem dp_flat {v : V} (h : flatV v = true) : Dp K H v (dV v) := by
  cases v with
  | non => exact .non
  | bl b => exact .bl b
  | int i => exact .int i
  | str x => exact .str x
  | _ => cases h
theorem dpAll_flat : ∀ {xs : List V}, xs.all flatV = true → DpAll K H xs (xs.map dV)
  | [], _ => .nil
  | v :: xs, h => by
    rw [List.all_cons, Bool.and_eq_true] at h
    exact .cons (dp_flat h.1) (dpAll_flat h.2)
theorem dp_listF {a : Addr} {xs : List V} (h : SqL K H a xs) (hf : xs.all flatV = true) : Dp K H (.ref a) (.list (xs.map dV)) := .lst h (dpAll_flat hf)
theorem k_neDs {x y : V} {d : PyData} {n : Nat} (hx : Dp K H x d) (hy : Dp K H y d) (hl : laid d n) (hn : n ≤ 64) (q : Q (.bl false) H) : rNeD K x y H Q :=
  ⟨d, d, hx, hy, laid_shaped hl hn, laid_shaped hl hn, by rw [SeqAt.eqv_refl d hl.1]; exact q⟩
theorem k_eqDs {x y : V} {d : PyData} {n : Nat} (hx : Dp K H x d) (hy : Dp K H y d) (hl : laid d n) (hn : n ≤ 64) (q : Q (.bl true) H) : rEqD K x y H Q :=
  ⟨d, d, hx, hy, laid_shaped hl hn, laid_shaped hl hn, by rw [SeqAt.eqv_refl d hl.1]; exact q⟩
end
theorem all_flat_bel (B : List Nat) : (belV B).all flatV = true := by
  unfold belV
  rw [List.all_cons]
  show (true && _) = true
  rw [all_flat_nV]
  rfl
theorem laid_bel (B : List Nat) : laid (.list ((belV B).map dV)) 1 := laid_list fun d hd => by
  obtain ⟨v, hv, rfl⟩ := List.mem_map.mp hd
  rcases List.mem_cons.mp hv with rfl | hv
  · exact laid_none
  · obtain ⟨n, _, rfl⟩ := List.mem_map.mp hv
    exact laid_int _
theorem laid_ints (xs : List Int) : laid (.list ((xs.map V.int).map dV)) 1 := laid_list fun d hd => by
  obtain ⟨v, hv, rfl⟩ := List.mem_map.mp hd
  obtain ⟨n, _, rfl⟩ := List.mem_map.mp hv
  exact laid_int _
theorem rgV_nat (n : Nat) : rgV 0 (n : Int) = (List.range n).map nV := by
  unfold rgV
  have e : ((n : Int) - 0).toNat = n := by omega
  rw [e]
  refine List.map_congr_left fun i _ => ?_
  rw [Int.zero_add]
/-- a law: a list of at most 63 ints is handed in, True comes out -/
def sp_lawK (K : PySem.W.Frag) : Sp := fun vs H Q E => ∃ (a : Addr) (ns : List Int), vs = [.ref a] ∧ SqL K H a (ns.map V.int) ∧ ns.length ≤ 63 ∧ ∀ H', Q (.bl true) H'
def sp_law (c : Cs) : Sp := sp_lawK c.K
/-! ### more steps -/
section
variable {K : PySem.W.Frag} {σ : L2.St} {H : Hp} {Q : VK} {D : Ends} {te : TE} {b : Bool}
/-- if t: x = e, told by what x has behind it -/
theorem k_ifset {i : Nat} {v0 : V} (P : V → Prop) (e0 : σ.set i (some v0) = σ) (h1 : b = true → ∃ v, P v ∧ ∀ Q : VK, Q v H → te σ H Q) (h2 : b = false → P v0) (k : ∀ v, P v → D.nx (σ.set i (some v)) H) : kIf (tAsg te (gName i)) tNext D σ b H := by
  cases b with
  | true =>
    obtain ⟨v, hv, q⟩ := h1 rfl
    exact q _ (k v hv)
  | false =>
    have := k v0 (h2 rfl)
    rw [e0] at this
    exact this
def kRg1 (R : Int → Int → Hp → Prop) : VK := fun x H1 => ∃ n, x = .int n ∧ R 0 n H1
theorem r_rg1 {ta : TE} {R : Int → Int → Hp → Prop} (h : ta σ H (kRg1 R)) : tRg1 ta σ H R := h
theorem k_rg1 {n : Int} {R : Int → Int → Hp → Prop} (h : R 0 n H) : kRg1 R (.int n) H := ⟨n, rfl, h⟩
theorem k_rgl {a b : Int} (h : RgOk a b) (q : ∀ p H', H p = none → Ext H H' → H' p = some (.lst (rgV a b)) → Q (.ref p) H') : kRgl Q a b H := ⟨h, fun p hp => q p _ hp (ext_new hp) upd_same⟩
def kMk (C : Addr) (sp : Sp) (W : WX) (σ : L2.St) (Q : VK) : List V → Hp → Prop := fun vs H1 => ∀ x dx, H1 x = none → H1 dx = none → dx ≠ x → sp (.ref x :: vs) (upd (upd H1 dx (.own x)) x (.ins C dx [])) (fun v H2 => v = .non ∧ Q (.ref x) H2) (WE W σ)
theorem r_mk {C : Addr} {sp : Sp} {W : WX} {t : TA} (h : t σ H (kMk C sp W σ Q)) : tMakeS C sp W t σ H Q := h
theorem k_mk {C : Addr} {sp : Sp} {W : WX} {vs : List V} (h : ∀ x dx H2, H x = none → Ext H H2 → H2 x = some (.ins C dx []) → sp (.ref x :: vs) H2 (fun v H3 => v = .non ∧ Q (.ref x) H3) (WE W σ)) : kMk C sp W σ Q vs H := by
  intro x dx hx hdx ne
  refine h x dx _ hx ⟨fun a o e => ?_⟩ upd_same
  rw [upd_ne (ne_of_none e hx), upd_ne (ne_of_none e hdx)]
  exact e
/-- River(below), a list that tells one -/
theorem k_mkRiver {c : Cs} {W : WX} {b : Addr} {B : List Nat} (hb : SqL c.K H b (belV B)) (hR : Riv B) (k : ∀ x l H', H x = none → H l = none → x ≠ l → Ext H H' → RivAt c H' x l B → Q (.ref x) H') : kMk c.river (sp_River_init c) W σ Q [.ref b] H := by
  refine k_mk fun x dx H3 hx e3 h3 => ?_
  have e : (none :: B.map fun (n : Nat) => some (n : Int)).map oV = belV B := by
    unfold belV
    rw [List.map_cons, List.map_map]
    rfl
  have hf := hR.few
  refine ⟨x, dx, b, none :: B.map fun (n : Nat) => some (n : Int), rfl, h3, ?_, ?_, fun B' t l H4 hl b4 A => ⟨rfl, ?_⟩, fun hn => absurd ⟨e, hR⟩ (hn B)⟩
  · rw [e]
    exact e3.sq hb
  · rw [List.length_cons, List.length_map]
    omega
  · have e' : B' = B := by
      have := t.1
      rw [e] at this
      have h1 := rows_of (List.cons.inj t.1).2
      have h2 : ∀ (X Y : List Nat), (X.map fun (n : Nat) => some (n : Int)) = (Y.map fun (n : Nat) => some (n : Int)) → X = Y := by
        intro X
        induction X with
        | nil => intro Y h; cases Y with
          | nil => rfl
          | cons y Y => cases h
        | cons x X ih => intro Y h; cases Y with
          | nil => cases h
          | cons y Y =>
            have hx : (x : Int) = (y : Int) := Option.some.inj (List.cons.inj h).1
            have : x = y := by omega
            rw [this, ih Y (List.cons.inj h).2]
      exact (h2 _ _ h1).symm
    subst e'
    refine k x l H4 hx (e3.free hl) (ne_of_none h3 hl) (e3.ac.but b4 (frs_cons hx frs_nil)).ext A
end
end Rv

end
namespace Rv
open PySem L2
/-! ### sorted, items data of one kind: the one stable order -/
theorem hu65 {A : Around} {k : Nat} (hr : Room k A) : A.units + 65 < cLine := by have := hr.un; omega
def rSortedD (K : PySem.W.Frag) : List V → Hp → VK → Prop := fun vs H Q => ∃ (a : Addr) (xs : List V) (β : Type) (bs : List β) (enc : β → PyData) (Rr : V → β → Prop), vs = [.ref a] ∧ SqL K H a xs ∧ Paired Rr xs bs ∧ (∀ v b, Rr v b → Dp K H v (enc b)) ∧
  PySem.W.AllAlike (bs.map enc) ∧ PySem.W.Sortable (bs.map enc) ∧ (∀ b ∈ bs, (enc b).depth ≤ 8) ∧
  ∀ ys p, Paired Rr ys (bs.mergeSort (PySem.W.dataLe false enc)) → H p = none → Q (.ref p) (upd H p (.lst ys))
theorem vals_pair {β : Type} {Rr : V → β → Prop} : ∀ {xs : List V} {us : List Value} {bs : List β}, Vals xs us → Paired Rr xs bs → PySem.W.EachIs (fun u b => ∃ v, RelV v u ∧ Rr v b) us bs
  | _, _, _, .nil, .nil => .nil
  | _, _, _, .cons r t, .cons p q => .cons ⟨_, r, p⟩ (vals_pair t q)
theorem each_back {β : Type} {Rr : V → β → Prop} : ∀ {us : List Value} {bs : List β}, PySem.W.EachIs (fun u b => ∃ v, RelV v u ∧ Rr v b) us bs → ∃ xs, Vals xs us ∧ Paired Rr xs bs
  | _, _, .nil => ⟨[], .nil, .nil⟩
  | _, _, .cons ⟨v, r, p⟩ t => by
    obtain ⟨xs, h1, h2⟩ := each_back t
    exact ⟨v :: xs, .cons r h1, .cons p h2⟩
theorem each_mem {α β : Type} {R R' : α → β → Prop} : ∀ {as : List α} {bs : List β}, PySem.W.EachIs R as bs → (∀ a b, b ∈ bs → R a b → R' a b) → PySem.W.EachIs R' as bs
  | _, _, .nil, _ => .nil
  | _, _, .cons r t, h => .cons (h _ _ List.mem_cons_self r) (each_mem t fun a b hb q => h a b (List.mem_cons_of_mem _ hb) q)
theorem c_sortedD {X : Cx} (hu : X.A.units + 65 < cLine) : CallR X (.builtin "sorted") (rSortedD X.K) := by
  intro pins s σ H vs us Q I r h
  obtain ⟨a, xs, β, bs, enc, Rr, rfl, hs, pr, hd, hal, hk, hdp, q⟩ := h
  obtain ⟨its, rv, hl, hz⟩ := I.list hs
  obtain ⟨u, rfl, ru⟩ := vals1 r
  obtain rfl : u = Value.ref a := ru
  have e := vals_pair rv pr
  have er : PySem.W.EachIs (fun u b => ∃ as, PySem.Reads s.heap u (enc b) as) its bs := e.mono fun u b ⟨v, hv, hb⟩ => Dp.reads I _ v u (hd v b hb) hv
  have hlen : bs.length = xs.length := by
    have h1 := e.length
    have h2 := rv.length
    omega
  refine PySem.W.sorted_data hl.isList e er hal hk (by rw [hlen]; exact hz) (fun b hb => by have := hdp b hb; omega) fun out ho eo => ?_
  obtain ⟨ys, v1, p1⟩ := each_back eo
  obtain ⟨n, hn⟩ := PyProof.Rows.sortedAll_at s.heap its out.toArray
  have hp : s.heap.objs.size ≤ s.heap.objs.size + 1 := Nat.le_succ _
  refine ⟨.ref (s.heap.objs.size + 1), upd H (s.heap.objs.size + 1) (.lst ys), I.laid (t' := s.toks) (fun _ _ h => PyProof.Rows.sortedAll_old h) hp ⟨?_, out, n, v1, hn⟩, rfl, q ys _ p1 (I.hok.fresh hp)⟩
  have h2 := v1.length
  omega
/-! ### two lists that may be read only -/
def rCatQ (K : PySem.W.Frag) : R2 := fun x y H Q => ∃ (a b : Addr) (xs ys : List V), x = .ref a ∧ y = .ref b ∧ SqL K H a xs ∧ SqL K H b ys ∧ xs.length + ys.length ≤ sizeLine ∧ ∀ p, H p = none → Q (.ref p) (upd H p (.lst (xs ++ ys)))
theorem op_catQ {X : Cx} : OpR X (binaryOp .Add) (rCatQ X.K) := by
  intro pins s σ H x y v u Q I rx ry h
  obtain ⟨a, b, xs, ys, rfl, rfl, ha, hb, hz, q⟩ := h
  cases rx
  cases ry
  obtain ⟨i1, r1, ⟨⟨c1, d1, k1, s1⟩, n1, o1, e1, f1, g1⟩, l1⟩ := I.list ha
  obtain ⟨i2, r2, ⟨⟨c2, d2, k2, s2⟩, n2, o2, e2, f2, g2⟩, l2⟩ := I.list hb
  simp only at e1 g1 e2 g2
  subst e1 g1 e2 g2
  have z1 := r1.length
  have z2 := r2.length
  refine PySem.concat_meets ⟨_, o1, rfl⟩ ⟨_, o2, rfl⟩ PySem.noFill_list_add PySem.seq_list_add PySem.F.slot_list_add PySem.F.entry_list_add (PySem.F.args_list_add_2 _ _) (PyProof.Rows.list_addW a b i1.toArray i2.toArray n1 n2 d1 d2 s1 s2 (by rw [List.size_toArray, List.size_toArray]; omega)) ⟨o1, o2, ?_⟩
  have ea : i1.toArray ++ i2.toArray = (i1 ++ i2).toArray := by simp
  rw [ea]
  exact ⟨.ref _, _, I.lnew (t' := s.toks) (r1.append r2) (by rw [List.length_append]; omega), rfl, q _ I.fresh⟩
theorem k_catQ {K : PySem.W.Frag} {H : Hp} {Q : VK} {a b : Addr} {xs ys : List V} (ha : SqL K H a xs) (hb : SqL K H b ys) (hz : xs.length + ys.length ≤ sizeLine) (q : ∀ p H', H p = none → Ext H H' → H' p = some (.lst (xs ++ ys)) → Q (.ref p) H') : rCatQ K (.ref a) (.ref b) H Q :=
  ⟨a, b, xs, ys, rfl, rfl, ha, hb, hz, fun p hp => q p _ hp (ext_new hp) upd_same⟩
/-! ### list.remove of data -/
def rRemoveD (K : PySem.W.Frag) : V → List V → Hp → VK → Prop := fun x vs H Q => ∃ (l : Addr) (xs : List V) (y : V) (d : PyData) (ds : List PyData) (j : Nat), x = .ref l ∧ vs = [y] ∧ H l = some (.lst xs) ∧ DpAll K H xs ds ∧ Dp K H y d ∧
  PyData.plainAll ds = true ∧ d.plain = true ∧ d.depth ≤ 8 ∧ PySem.SeqAt.dataPlace ds d = some j ∧ Q .non (upd H l (.lst (xs.eraseIdx j)))
theorem m_removeD {X : Cx} (hu : X.A.units + 65 < cLine) : MtM X "list.remove" (rRemoveD X.K) := by
  intro pins s σ H x xs v us Q I rx rxs h
  obtain ⟨l, ys, y, d, ds, j, rfl, rfl, hH, hds, hd, p1, p2, hdp, hj, q⟩ := h
  cases rx
  obtain ⟨u, rfl, ru⟩ := rxs.one
  obtain ⟨z, its, n, r, hl, e⟩ := I.lstM hH
  obtain ⟨as, r1⟩ := Dp.readsAll I ds ys its hds r
  obtain ⟨bs, r2⟩ := Dp.reads I d y u hd ru
  have rr := r.eraseIdx j
  have hz : its.toArray.size ≤ sizeLine := by rw [List.size_toArray]; omega
  refine PySem.SeqAt.remove_list_data (vs := its.toArray) ⟨_, e, rfl, n, rfl⟩ r1 r2 p1 p2 (by omega) hj hz ?_
  refine ⟨.non, _, I.lset (its' := its.eraseIdx j) (t' := s.toks) hH e ?_ rr ?_, rfl, q⟩
  · show its.toArray.eraseIdxIfInBounds j = (its.eraseIdx j).toArray
    rw [List.eraseIdxIfInBounds_toArray]
  · have := List.length_eraseIdx_le ys j
    omega
section
variable {K : PySem.W.Frag} {H : Hp} {Q : VK}
theorem k_sortedD {β : Type} {a : Addr} {xs : List V} (bs : List β) (enc : β → PyData) (Rr : V → β → Prop) (hs : SqL K H a xs) (pr : Paired Rr xs bs) (hd : ∀ v b, Rr v b → Dp K H v (enc b)) (hal : ∀ b b', PySem.W.alike (enc b) (enc b') = true) (hk : ∀ b, ∃ x r, enc b = .tuple (x :: r)) (hdp : ∀ b, (enc b).depth ≤ 8)
    (q : ∀ ys p H', H p = none → Ext H H' → H' p = some (.lst ys) → Paired Rr ys (bs.mergeSort (PySem.W.dataLe false enc)) → Q (.ref p) H') : rSortedD K [.ref a] H Q :=
  ⟨a, xs, β, bs, enc, Rr, rfl, hs, pr, hd, PySem.W.AllAlike.of hal, PySem.W.Sortable.tuples hk, fun b _ => hdp b, fun ys p p1 hp => q ys p _ hp (ext_new hp) upd_same p1⟩
end
end Rv

namespace Rv
open PySem L2
/-! ### dicts whose keys are names -/
def PK {ρ : Type} (nm : ρ → Str) (Val : V → ρ → Prop) (kvs : List (Key × V)) (R : List ρ) : Prop := Paired (fun (kv : Key × V) w => kv.1 = .inr (nm w) ∧ Val kv.2 w) kvs R
section
variable {ρ : Type} {nm : ρ → Str} {Val Val' : V → ρ → Prop}
theorem PK.mono (h : ∀ v w, Val v w → Val' v w) : ∀ {kvs : List (Key × V)} {R : List ρ}, PK nm Val kvs R → PK nm Val' kvs R
  | _, _, .nil => .nil
  | _, _, .cons r t => .cons ⟨r.1, h _ _ r.2⟩ (PK.mono h t)
theorem PK.len : ∀ {kvs : List (Key × V)} {R : List ρ}, PK nm Val kvs R → kvs.length = R.length
  | _, _, .nil => rfl
  | _, _, .cons _ t => by rw [List.length_cons, List.length_cons, PK.len t]
theorem PK.keys : ∀ {kvs : List (Key × V)} {R : List ρ}, PK nm Val kvs R → kvs.map (·.1) = R.map fun w => .inr (nm w)
  | _, _, .nil => rfl
  | _, _, .cons r t => by rw [List.map_cons, List.map_cons, r.1, PK.keys t]
theorem PK.none : ∀ {kvs : List (Key × V)} {R : List ρ}, PK nm Val kvs R → ∀ n, n ∉ R.map nm → valV kvs (.inr n) = none
  | _, _, .nil, _, _ => rfl
  | _, _, .cons (a := kv) (b := w) r t, n, h => by
    have h1 : n ≠ nm w := fun e => h (by rw [e]; exact List.mem_cons_self)
    have h2 : ¬ kv.1 = .inr n := fun e => h1 (Sum.inr.inj (r.1.symm.trans e)).symm
    rw [valV_neg h2]
    exact PK.none t n fun z => h (List.mem_cons_of_mem _ z)
theorem PK.get : ∀ {kvs : List (Key × V)} {R : List ρ}, PK nm Val kvs R → (R.map nm).Nodup → ∀ w, w ∈ R → ∃ v, valV kvs (.inr (nm w)) = some v ∧ Val v w
  | _, _, .nil, _, _, h => by cases h
  | _, _, .cons (a := kv) (b := u) r t, nd, w, h => by
    have nd' := List.nodup_cons.mp nd
    rcases List.mem_cons.mp h with e | h
    · subst e
      exact ⟨_, valV_pos r.1, r.2⟩
    · have h1 : nm u ≠ nm w := fun e => nd'.1 (by rw [e]; exact List.mem_map.mpr ⟨w, h, rfl⟩)
      have h2 : ¬ kv.1 = .inr (nm w) := fun e => h1 (Sum.inr.inj (r.1.symm.trans e))
      rw [valV_neg h2]
      exact PK.get t nd'.2 w h
theorem PK.isSome : ∀ {kvs : List (Key × V)} {R : List ρ}, PK nm Val kvs R → ∀ n, (valV kvs (.inr n)).isSome = decide (n ∈ R.map nm)
  | _, _, .nil, _ => by
    rw [decide_eq_false (by simp)]
    rfl
  | _, _, .cons (a := kv) (b := u) (l₂ := l2) r t, n => by
    by_cases e : nm u = n
    · rw [valV_pos (r.1.trans (by rw [e])), decide_eq_true (by rw [← e]; exact List.mem_cons_self)]
      rfl
    · have h2 : ¬ kv.1 = .inr n := fun z => e (Sum.inr.inj (r.1.symm.trans z))
      rw [valV_neg h2, PK.isSome t n]
      have : n ∈ List.map nm (u :: l2) ↔ n ∈ List.map nm l2 := ⟨fun z => (List.mem_cons.mp z).elim (fun y => absurd y.symm e) id, fun z => List.mem_cons_of_mem _ z⟩
      exact decide_eq_decide.mpr this.symm
theorem PK.snoc {kvs : List (Key × V)} {R : List ρ} (h : PK nm Val kvs R) {w : ρ} {v : V} (hv : Val v w) : PK nm Val (kvs ++ [(.inr (nm w), v)]) (R ++ [w]) := Paired.snoc h ⟨rfl, hv⟩
theorem PK.put : ∀ {kvs : List (Key × V)} {R : List ρ}, PK nm Val kvs R → ∀ {w : ρ} {v : V}, Val v w → PK nm Val (kvs.map fun kv => if kv.1 = .inr (nm w) then (kv.1, v) else kv) (R.map fun x => if nm x = nm w then w else x)
  | _, _, .nil, _, _, _ => .nil
  | _, _, .cons (a := kv) (b := u) r t, w, v, hv => by
    rw [List.map_cons, List.map_cons]
    by_cases e : nm u = nm w
    · rw [if_pos e, if_pos (r.1.trans (by rw [e]))]
      exact .cons ⟨r.1.trans (by rw [e]), hv⟩ (PK.put t hv)
    · rw [if_neg e, if_neg fun z => e (Sum.inr.inj (r.1.symm.trans z))]
      exact .cons r (PK.put t hv)
theorem PK.drop : ∀ {kvs : List (Key × V)} {R : List ρ}, PK nm Val kvs R → ∀ n, PK nm Val (dropK kvs (.inr n)) (R.filter fun x => decide (nm x ≠ n))
  | _, _, .nil, _ => .nil
  | _, _, .cons (a := kv) (b := u) r t, n => by
    by_cases e : nm u = n
    · have h1 : kv.1 = .inr n := r.1.trans (by rw [e])
      rw [List.filter_cons, if_neg (by simp [e])]
      unfold dropK
      rw [List.filter_cons, if_neg (by simp [h1])]
      exact PK.drop t n
    · have h1 : ¬ kv.1 = .inr n := fun z => e (Sum.inr.inj (r.1.symm.trans z))
      rw [List.filter_cons, if_pos (by simp [e])]
      unfold dropK
      rw [List.filter_cons, if_pos (by simp [h1])]
      exact .cons r (PK.drop t n)
end
/-- a dict by names at d -/
structure DicAt {ρ : Type} (nm : ρ → Str) (Val : Hp → V → ρ → Prop) (H : Hp) (d : Addr) (R : List ρ) : Prop where
  ex : ∃ kvs, H d = some (.dK kvs) ∧ PK nm (Val H) kvs R
/-- what is said of values leans on tuples alone -/
def MonoV {ρ : Type} (Val : Hp → V → ρ → Prop) : Prop := ∀ H H' v w, TupE H H' → Val H v w → Val H' v w
/-- put in its place, or at the end -/
def putR {ρ : Type} (nm : ρ → Str) (R : List ρ) (w : ρ) : List ρ := if nm w ∈ R.map nm then R.map (fun x => if nm x = nm w then w else x) else R ++ [w]
def dropR {ρ : Type} (nm : ρ → Str) (R : List ρ) (n : Str) : List ρ := R.filter fun x => decide (nm x ≠ n)
theorem tup_upd {H : Hp} {d : Addr} {kvs : List (Key × V)} {o : HO} (h : H d = some (.dK kvs)) : TupE H (upd H d o) := ⟨fun a xs ha => by
  by_cases e : a = d
  · subst e
    rw [h] at ha
    cases ha
  · rw [upd_ne e]
    exact ha⟩
theorem But.tupD {S : List Addr} {H H' : Hp} (e : But S H H') (h : ∀ a ∈ S, ∀ xs, H a ≠ some (.tup xs)) : TupE H H' := ⟨fun a xs ha => e.g a _ ha fun z => h a z xs ha⟩
theorem TupE.trans {H H1 H2 : Hp} (a : TupE H H1) (b : TupE H1 H2) : TupE H H2 := ⟨fun x xs h => b.g x xs (a.g x xs h)⟩
theorem TupE.refl (H : Hp) : TupE H H := ⟨fun _ _ h => h⟩
def kDPop1 (σ : L2.St) (ty : TE) (Q : VK) : VK := fun x H1 => ∃ a, x = .ref a ∧ IsD H1 a ∧ ty σ H1 fun y H2 => ∃ kvs k v, H2 a = some (.dK kvs) ∧ y = kV k ∧ valV kvs k = some v ∧ Q v (upd H2 a (.dK (dropK kvs k)))
section
variable {ρ : Type} {nm : ρ → Str} {Val : Hp → V → ρ → Prop} {H H' : Hp} {d : Addr} {R : List ρ} {Q : VK} {n : Str} {w : ρ} {v : V} {nx : Hp → Prop} {σ : L2.St} {td ty : TE}
theorem r_dpop1 (h : td σ H (kDPop1 σ ty Q)) : tDPop1 td ty σ H Q := h
theorem DicAt.isD (D : DicAt nm Val H d R) : IsD H d := let ⟨kvs, h, _⟩ := D.ex; .inl ⟨kvs, .inl h⟩
theorem DicAt.to (mv : MonoV Val) (D : DicAt nm Val H d R) (t : TupE H H') (h : ∀ o, H d = some o → H' d = some o) : DicAt nm Val H' d R :=
  let ⟨kvs, h1, p⟩ := D.ex
  ⟨kvs, h _ h1, p.mono fun v w q => mv _ _ v w t q⟩
theorem DicAt.ext (mv : MonoV Val) (D : DicAt nm Val H d R) (e : Ext H H') : DicAt nm Val H' d R := D.to mv e.tup fun o h => e.g _ _ h
theorem DicAt.ne (D : DicAt nm Val H d R) {a : Addr} {o : HO} (h : H a = some o) (hk : ∀ kvs, o ≠ .dK kvs) : a ≠ d := fun e => by
  obtain ⟨kvs, h1, _⟩ := D.ex
  subst e
  rw [h] at h1
  exact hk kvs (Option.some.inj h1)
theorem DicAt.nf (D : DicAt nm Val H d R) {a : Addr} (h : H a = none) : d ≠ a := fun e => by
  obtain ⟨kvs, h1, _⟩ := D.ex
  rw [e, h] at h1
  cases h1
theorem dic_get (D : DicAt nm Val H d R) (nd : (R.map nm).Nodup) (hw : w ∈ R) (hn : nm w = n) (q : ∀ v, Val H v w → Q v H) : kDGet Q (.ref d) (.str n) H := by
  obtain ⟨kvs, h1, p⟩ := D.ex
  obtain ⟨v, hv, hval⟩ := p.get nd w hw
  subst hn
  exact k_dget (k := .inr (nm w)) (.inl h1) hv (q v hval)
theorem dic_in (D : DicAt nm Val H d R) (q : Q (.bl (decide (n ∈ R.map nm))) H) : kDIn Q (.str n) (.ref d) H := by
  obtain ⟨kvs, h1, p⟩ := D.ex
  exact k_din (k := .inr n) (.inl h1) (by rw [p.isSome n]; exact q)
theorem dic_notin (D : DicAt nm Val H d R) (q : Q (.bl (!decide (n ∈ R.map nm))) H) : kDNotIn Q (.str n) (.ref d) H := by
  obtain ⟨kvs, h1, p⟩ := D.ex
  exact k_dnotin (k := .inr n) (.inl h1) (by rw [p.isSome n]; exact q)
theorem dic_put (mv : MonoV Val) (D : DicAt nm Val H d R) (hn : nm w = n) (hv : Val H v w) (hz : R.length < 100000) (q : ∀ H', But [d] H H' → TupE H H' → DicAt nm Val H' d (putR nm R w) → nx H') : kDPut nx v (.ref d) (.str n) H := by
  obtain ⟨kvs, h1, p⟩ := D.ex
  subst hn
  have hl := p.len
  refine ⟨d, _, rfl, DPut.k (k := .inr (nm w)) h1 (sz_lt (by omega)), q _ but_upd (tup_upd h1) ⟨_, upd_same, ?_⟩⟩
  have p' := p.mono (Val' := Val (upd H d (.dK (putK kvs (.inr (nm w)) v)))) fun v w q => mv _ _ v w (tup_upd h1) q
  have hv' := mv _ _ v w (tup_upd (o := .dK (putK kvs (.inr (nm w)) v)) h1) hv
  generalize upd H d (.dK (putK kvs (.inr (nm w)) v)) = H2 at p' hv'
  have hs := p.isSome (nm w)
  unfold putK putR
  rw [valV_any, hs]
  by_cases e : nm w ∈ R.map nm
  · rw [if_pos e, if_pos (decide_eq_true e)]
    exact p'.put hv'
  · rw [if_neg e, if_neg (by rw [decide_eq_false e]; exact Bool.false_ne_true)]
    exact p'.snoc hv'
theorem dic_pop (mv : MonoV Val) (D : DicAt nm Val H d R) (nd : (R.map nm).Nodup) (hw : w ∈ R) (hn : nm w = n) (q : ∀ v H', But [d] H H' → TupE H H' → DicAt nm Val H' d (dropR nm R n) → Q v H') :
    ∃ kvs k v, H d = some (.dK kvs) ∧ V.str n = kV k ∧ valV kvs k = some v ∧ Q v (upd H d (.dK (dropK kvs k))) := by
  obtain ⟨kvs, h1, p⟩ := D.ex
  obtain ⟨v, hv, hval⟩ := p.get nd w hw
  subst hn
  refine ⟨kvs, .inr (nm w), v, h1, rfl, hv, q v _ but_upd (tup_upd h1) ⟨_, upd_same, ?_⟩⟩
  exact (p.mono (Val' := Val (upd H d (.dK (dropK kvs (.inr (nm w)))))) fun v w q => mv _ _ v w (tup_upd h1) q).drop (nm w)
theorem k_dpop1 (h : IsD H d) (q : ty σ H fun y H2 => ∃ kvs k v, H2 d = some (.dK kvs) ∧ y = kV k ∧ valV kvs k = some v ∧ Q v (upd H2 d (.dK (dropK kvs k)))) : kDPop1 σ ty Q (.ref d) H := ⟨d, rfl, h, q⟩
theorem dic_new (q : ∀ p H', H p = none → Ext H H' → H' p = some (.dK []) → Q (.ref p) H') : tDNewK σ H Q := fun p hp => q p _ hp (ext_new hp) upd_same
theorem dic_len {K : PySem.W.Frag} (D : DicAt nm Val H d R) (q : Q (.int R.length) H) : rLenD [.ref d] H Q := by
  obtain ⟨kvs, h1, p⟩ := D.ex
  exact k_lenD h1 (by rw [p.len]; exact q)
/-- get(name, x) -/
theorem dic_get2 {tc : TE} {σ : L2.St} {tb : TE} (D : DicAt nm Val H d R) (h : tb σ H fun y H2 => tc σ H2 fun z H3 => ∃ o, DGet H3 d y o ∧ Q (o.getD z) H3) : kDGet2 σ tb tc Q (.ref d) H := ⟨d, rfl, D.isD, h⟩
theorem dic_getD (D : DicAt nm Val H d R) (nd : (R.map nm).Nodup) {z : V} (h1 : ∀ w v, w ∈ R → nm w = n → Val H v w → Q v H) (h2 : n ∉ R.map nm → Q z H) : ∃ o, DGet H d (.str n) o ∧ Q (o.getD z) H := by
  obtain ⟨kvs, h, p⟩ := D.ex
  refine ⟨_, DGet.k (k := .inr n) h, ?_⟩
  by_cases e : n ∈ R.map nm
  · obtain ⟨w, hw, hn⟩ := List.mem_map.mp e
    obtain ⟨v, hv, hval⟩ := p.get nd w hw
    subst hn
    rw [hv]
    exact h1 w v hw rfl hval
  · rw [p.none n e]
    exact h2 e
end
/-! ### a dict walked: it is locked meanwhile -/
def kUnl (d : Addr) (od : Obj) (u : HO) (Q : VK) : VK := fun v H' => H' d = some (.frz od u) ∧ Q v (upd H' d u)
def dUnl (d : Addr) (od : Obj) (u : HO) (D : Ends) : Ends := { nx := fun σ' H' => H' d = some (.frz od u) ∧ D.nx σ' (upd H' d u), rt := fun v H' => H' d = some (.frz od u) ∧ D.rt v (upd H' d u), bk := fun σ' H' => H' d = some (.frz od u) ∧ D.bk σ' (upd H' d u), ct := fun σ' H' => H' d = some (.frz od u) ∧ D.ct σ' (upd H' d u) }
theorem k_lockE {t : TE} {σ : L2.St} {H : Hp} {Q : VK} {d : Addr} {kvs : List (Key × V)} (h : H d = some (.dK kvs)) (q : ∀ od H1, But [d] H H1 → H1 d = some (.frz od (.dK kvs)) → TupE H H1 → t σ H1 (kUnl d od (.dK kvs) Q)) : tLockE t σ H Q :=
  ⟨d, .dK kvs, h, trivial, fun od => q od _ but_upd upd_same (tup_upd h)⟩
/-- unlocked: all stands that stood, and what came since -/
theorem k_unl {d : Addr} {od : Obj} {u : HO} {Q : VK} {H H1 H2 : Hp} {v : V} (h : H d = some u) (b : But [d] H H1) (h1 : H1 d = some (.frz od u)) (e : Ext H1 H2) (q : ∀ H3, Ext H H3 → But [d] H2 H3 → Q v H3) : kUnl d od u Q v H2 := by
  refine ⟨e.g _ _ h1, q _ ⟨fun a o ha => ?_⟩ but_upd⟩
  by_cases z : a = d
  · subst z
    rw [h] at ha
    cases ha
    exact upd_same
  · rw [upd_ne z]
    exact e.g _ _ (b.g _ _ ha fun y => z (by simpa using y))
end Rv

namespace Rv
open PySem L2
/-! ### rights, and their age -/
structure Rw where
  n : Str
  p : Nat
  a : Int
  d : Int
  deriving DecidableEq, Inhabited
/-- older or as old -/
def leAge (d1 : Int) (n1 : Str) (d2 : Int) (n2 : Str) : Prop := d1 < d2 ∨ (d1 = d2 ∧ n1.cps.toList ≤ n2.cps.toList)
instance {d1 d2 : Int} {n1 n2 : Str} : Decidable (leAge d1 n1 d2 n2) := by unfold leAge; infer_instance
def agedR (R : List Rw) : List Rw := R.mergeSort fun x y => decide (leAge x.d x.n y.d y.n)
theorem str_ext {x y : Str} (h : x.cps.toList = y.cps.toList) : x = y := by
  cases x with
  | mk a =>
    cases y with
    | mk b =>
      have : a = b := Array.toList_inj.mp h
      rw [this]
theorem eqv_str (x y : Str) : PyData.eqv (.str x) (.str y) = decide (x = y) := by
  simp only [PyData.eqv]
  by_cases h : x = y
  · subst h
    rw [decide_eq_true rfl]
    exact beq_self_eq_true x
  · rw [decide_eq_false h]
    exact beq_eq_false_iff_ne.mpr h
theorem eqv_int (x y : Int) : PyData.eqv (.int x) (.int y) = decide (x = y) := by
  simp only [PyData.eqv]
  by_cases h : x = y
  · subst h
    rw [decide_eq_true rfl]
    exact beq_self_eq_true x
  · rw [decide_eq_false h]
    exact beq_eq_false_iff_ne.mpr h
theorem dataLt_ds (x x' : Int) (y y' : Str) : PySem.W.dataLt (.tuple [.int x, .str y]) (.tuple [.int x', .str y']) = decide (x < x' ∨ (x = x' ∧ y.cps.toList < y'.cps.toList)) := by
  rw [PySem.W.dataLt_pair (by simp [PySem.W.alike]) (by simp [PySem.W.alike]), PySem.W.dataLt_int, PySem.W.dataLt_str, eqv_int, eqv_str]
  by_cases h1 : x = x'
  · subst h1
    rw [if_pos (decide_eq_true rfl)]
    by_cases h2 : y = y'
    · subst h2
      rw [if_pos (decide_eq_true rfl)]
      refine (decide_eq_false fun z => ?_).symm
      rcases z with z | z
      · omega
      · exact List.lt_irrefl _ z.2
    · rw [if_neg (by rw [decide_eq_false h2]; exact Bool.false_ne_true)]
      refine decide_eq_decide.mpr ⟨fun z => .inr ⟨rfl, z⟩, fun z => ?_⟩
      rcases z with z | z
      · omega
      · exact z.2
  · rw [if_neg (by rw [decide_eq_false h1]; exact Bool.false_ne_true)]
    exact decide_eq_decide.mpr ⟨.inl, fun z => z.elim id fun z => absurd z.1 h1⟩
theorem notLt_age (x x' : Int) (y y' : Str) : (!decide (x' < x ∨ (x' = x ∧ y'.cps.toList < y.cps.toList))) = decide (leAge x y x' y') := by
  rw [← decide_not]
  refine decide_eq_decide.mpr ⟨fun h => ?_, fun h z => ?_⟩
  · by_cases h1 : x = x'
    · exact .inr ⟨h1, List.not_lt.mp fun z => h (.inr ⟨h1.symm, z⟩)⟩
    · exact .inl (by
        have : ¬ x' < x := fun z => h (.inl z)
        omega)
  · rcases h with h | h <;> rcases z with z | z
    · omega
    · omega
    · omega
    · exact List.not_lt.mpr h.2 z.2
theorem dataLe_age {β : Type} (x : β → Int) (y : β → Str) : PySem.W.dataLe false (fun b => .tuple [.int (x b), .str (y b)]) = fun p q => decide (leAge (x p) (y p) (x q) (y q)) := by
  funext p q
  show (!PySem.W.dataLt _ _) = _
  rw [dataLt_ds, notLt_age]
theorem le_age_total {β : Type} (x : β → Int) (y : β → Str) : PySem.W.TotalLe fun p q : β => decide (leAge (x p) (y p) (x q) (y q)) := by
  rw [← dataLe_age]
  exact PySem.W.sortLe_total _ _ _
theorem agedR_perm (R : List Rw) : (agedR R).Perm R := List.mergeSort_perm _ _
theorem agedR_len (R : List Rw) : (agedR R).length = R.length := (agedR_perm R).length_eq
theorem agedR_mem {R : List Rw} {w : Rw} : w ∈ agedR R ↔ w ∈ R := (agedR_perm R).mem_iff
theorem agedR_sorted (R : List Rw) : (agedR R).Pairwise fun x y => leAge x.d x.n y.d y.n :=
  (PySem.W.sort_pairwise (le_age_total Rw.d Rw.n) R).imp fun h => of_decide_eq_true h
theorem agedR_nodup {R : List Rw} (h : (R.map Rw.n).Nodup) : ((agedR R).map Rw.n).Nodup := ((agedR_perm R).map Rw.n).nodup_iff.mpr h
theorem leAge_anti {d1 d2 : Int} {n1 n2 : Str} (h1 : leAge d1 n1 d2 n2) (h2 : leAge d2 n2 d1 n1) : n1 = n2 := by
  rcases h1 with h1 | h1 <;> rcases h2 with h2 | h2
  · omega
  · omega
  · omega
  · exact str_ext (List.le_antisymm h1.2 h2.2)
theorem nodup_inj {α β : Type} {f : α → β} : ∀ {l : List α}, (l.map f).Nodup → ∀ {a b : α}, a ∈ l → b ∈ l → f a = f b → a = b
  | [], _, _, _, h, _, _ => by cases h
  | x :: l, nd, a, b, ha, hb, e => by
    have nd' := List.nodup_cons.mp nd
    rcases List.mem_cons.mp ha with h1 | h1 <;> rcases List.mem_cons.mp hb with h2 | h2
    · rw [h1, h2]
    · subst h1
      exact absurd (List.mem_map.mpr ⟨b, h2, e.symm⟩) nd'.1
    · subst h2
      exact absurd (List.mem_map.mpr ⟨a, h1, e⟩) nd'.1
    · exact nodup_inj nd'.2 h1 h2 e
/-- two lists in order of age with the same rights, names apart, are one -/
theorem aged_uniq {L M : List Rw} (hL : L.Pairwise fun x y => leAge x.d x.n y.d y.n) (hM : M.Pairwise fun x y => leAge x.d x.n y.d y.n) (hp : L.Perm M) (nd : (M.map Rw.n).Nodup) : L = M := by
  refine List.Perm.eq_of_pairwise (le := fun x y => leAge x.d x.n y.d y.n) (fun a b ha hb h1 h2 => ?_) hL hM hp
  have hb' := hb
  exact nodup_inj nd (hp.mem_iff.mp ha) hb' (leAge_anti h1 h2)
theorem agedR_perm_eq {R S : List Rw} (h : R.Perm S) (nd : (R.map Rw.n).Nodup) : agedR R = agedR S :=
  aged_uniq (agedR_sorted R) (agedR_sorted S) ((agedR_perm R).trans (h.trans (agedR_perm S).symm)) (agedR_nodup ((h.map Rw.n).nodup_iff.mp nd))
/-- sorted by a tuple that begins with the pair of date and name, the names apart -/
theorem aged_nest (enc : Rw → List PyData) {R : List Rw} (nd : (R.map Rw.n).Nodup) : R.mergeSort (PySem.W.dataLe false fun w => .tuple (.tuple [.int w.d, .str w.n] :: enc w)) = agedR R := by
  refine PySem.W.sort_congr fun a ha b hb => ?_
  show (!PySem.W.dataLt _ _) = _
  by_cases e : a = b
  · subst e
    rw [show PySem.W.dataLt (.tuple (.tuple [.int a.d, .str a.n] :: enc a)) (.tuple (.tuple [.int a.d, .str a.n] :: enc a)) = false from PyProof.Rows.lex_irrefl _]
    exact (decide_eq_true (.inr ⟨rfl, List.le_refl _⟩)).symm
  · have en : ¬ a.n = b.n := fun z => e (nodup_inj nd ha hb z)
    have ev : PyData.eqv (.tuple [.int b.d, .str b.n]) (.tuple [.int a.d, .str a.n]) = false := by
      simp only [PyData.eqv, PyData.eqvAll]
      have : (b.n == a.n) = false := beq_eq_false_iff_ne.mpr fun z => en z.symm
      rw [this]
      simp
    rw [PySem.W.dataLt_tuple, PySem.W.dataLt_cons (by simp [PySem.W.alike, PySem.W.alikeAll]), if_neg (by rw [ev]; exact Bool.false_ne_true), dataLt_ds, notLt_age]
end Rv

section
local macro_rules | `(tactic| lcg_src) => `(tactic| first
  | assumption
  | (with_reducible exact Rv.lk_here)
  | (refine (Rv.lk_past (by decide +kernel)).trans ?_; lcg_src)
  | (with_unfolding_all exact rfl))
local macro_rules | `(tactic| keq_hits) => `(tactic| first
  | assumption
  | ((with_reducible apply Rv.Ext.hl); (focus assumption); (focus keq_hits))
  | ((with_reducible apply Rv.But.hl); (focus assumption); (focus keq_hits); (focus keq_hits))
  | ((with_reducible apply Rv.Ac.hl); (focus assumption); (focus keq_hits))
  | ((with_reducible apply L2.SqL.of); (focus assumption))
  | ((with_reducible apply Rv.Ext.sq); (focus assumption); (focus keq_hits))
  | ((with_reducible apply Rv.But.sq); (focus assumption); (focus keq_hits); (focus keq_hits))
  | ((with_reducible apply Rv.Ac.sq); (focus assumption); (focus keq_hits))
  | ((with_reducible apply L2.SqT.of); (focus assumption))
  | ((with_reducible apply Rv.Ext.st); (focus assumption); (focus keq_hits))
  | ((with_reducible apply Rv.But.st); (focus assumption); (focus keq_hits); (focus keq_hits))
  | ((with_reducible apply Rv.Ac.st); (focus assumption); (focus keq_hits))
  | ((with_reducible apply L2.Rd.of); (focus keq_hits))
  | ((with_reducible apply Rv.RivAt.ext); (focus assumption); (focus keq_hits))
  | ((with_reducible apply Rv.RivAt.but); (focus assumption); (focus keq_hits); (focus keq_hits); (focus keq_hits))
  | ((with_reducible apply Rv.RivAt.ac); (focus assumption); (focus keq_hits))
  | (with_reducible apply Rv.nin_nil)
  | ((with_reducible apply Rv.BokAt.ext); (focus assumption); (focus keq_hits))
  | ((with_reducible apply Rv.DicAt.ne); (focus assumption); (focus assumption); (focus (intro _ z; cases z)))
  | ((with_reducible apply Rv.DicAt.nf); (focus assumption); (focus assumption))
  | ((with_reducible apply Rv.Ext.tup); (focus assumption))
  | ((with_reducible apply Rv.Ac.tup); (focus assumption))
  | ((with_reducible apply Rv.nin_cons); (focus keq_hits); (focus keq_hits))
  | (with_reducible apply Rv.frs_nil)
  | ((with_reducible apply Rv.frs_cons); (focus keq_hits); (focus keq_hits))
  | ((with_reducible apply Ne.symm); (focus assumption))
  | ((with_reducible apply Rv.ne_nf); (focus assumption); (focus assumption))
  | ((with_reducible apply Rv.ne_fn); (focus assumption); (focus assumption))
  | ((with_reducible apply Rv.ne_k1); (focus assumption); (focus assumption); (focus (first | (intro z; cases z; done) | ((with_reducible apply Rv.ins_ne); intro z; cases z; done))))
  | ((with_reducible apply Rv.ne_k2); (focus assumption); (focus assumption); (focus (first | (intro z; cases z; done) | ((with_reducible apply Rv.ins_ne); intro z; cases z; done))))
  | ((with_reducible apply Rv.free2); (focus assumption); (focus assumption))
  | (with_reducible apply Rv.Ac.refl)
  | ((with_reducible apply Rv.Ac.step'); (focus assumption); (focus keq_hits))
  | ((with_reducible apply Rv.Ac.but'); (focus assumption); (focus keq_hits); (focus keq_hits))
  | (with_reducible apply Rv.Ext.refl)
  | ((with_reducible apply Rv.Ac.ext); (focus keq_hits))
  | ((with_reducible apply Rv.sz_le); first | omega | (simp only [List.length_cons, List.length_nil, List.length_map, List.length_append]; omega))
  | ((with_reducible apply Rv.sz_lt); first | omega | (simp only [List.length_cons, List.length_nil, List.length_map, List.length_append]; omega)))
local macro_rules | `(tactic| kln_le) => `(tactic| first
  | assumption
  | ((with_reducible apply Rv.Ext.hl); (focus assumption); (focus kln_le))
  | ((with_reducible apply Rv.But.hl); (focus assumption); (focus kln_le); (focus kln_le))
  | ((with_reducible apply Rv.Ac.hl); (focus assumption); (focus kln_le))
  | ((with_reducible apply L2.SqL.of); (focus assumption))
  | ((with_reducible apply Rv.Ext.sq); (focus assumption); (focus kln_le))
  | ((with_reducible apply Rv.But.sq); (focus assumption); (focus kln_le); (focus kln_le))
  | ((with_reducible apply Rv.Ac.sq); (focus assumption); (focus kln_le))
  | ((with_reducible apply L2.SqT.of); (focus assumption))
  | ((with_reducible apply Rv.Ext.st); (focus assumption); (focus kln_le))
  | ((with_reducible apply Rv.But.st); (focus assumption); (focus kln_le); (focus kln_le))
  | ((with_reducible apply Rv.Ac.st); (focus assumption); (focus kln_le))
  | ((with_reducible apply L2.Rd.of); (focus kln_le))
  | ((with_reducible apply Rv.RivAt.ext); (focus assumption); (focus kln_le))
  | ((with_reducible apply Rv.RivAt.but); (focus assumption); (focus kln_le); (focus kln_le); (focus kln_le))
  | ((with_reducible apply Rv.RivAt.ac); (focus assumption); (focus kln_le))
  | (with_reducible apply Rv.nin_nil)
  | ((with_reducible apply Rv.BokAt.ext); (focus assumption); (focus kln_le))
  | ((with_reducible apply Rv.DicAt.ne); (focus assumption); (focus keq_hits); (focus (intro _ z; cases z)))
  | ((with_reducible apply Rv.DicAt.nf); (focus assumption); (focus keq_hits))
  | ((with_reducible apply Rv.Ext.tup); (focus assumption))
  | ((with_reducible apply Rv.Ac.tup); (focus assumption))
  | ((with_reducible apply Rv.nin_cons); (focus kln_le); (focus kln_le))
  | (with_reducible apply Rv.frs_nil)
  | ((with_reducible apply Rv.frs_cons); (focus kln_le); (focus kln_le))
  | ((with_reducible apply Ne.symm); (focus assumption))
  | ((with_reducible apply Rv.ne_nf); (focus assumption); (focus keq_hits))
  | ((with_reducible apply Rv.ne_fn); (focus assumption); (focus keq_hits))
  | ((with_reducible apply Rv.ne_k1); (focus assumption); (focus keq_hits); (focus (first | (intro z; cases z; done) | ((with_reducible apply Rv.ins_ne); intro z; cases z; done))))
  | ((with_reducible apply Rv.ne_k2); (focus assumption); (focus keq_hits); (focus (first | (intro z; cases z; done) | ((with_reducible apply Rv.ins_ne); intro z; cases z; done))))
  | ((with_reducible apply Rv.free2); (focus assumption); (focus keq_hits))
  | (with_reducible apply Rv.Ac.refl)
  | ((with_reducible apply Rv.Ac.step'); (focus assumption); (focus kln_le))
  | ((with_reducible apply Rv.Ac.but'); (focus assumption); (focus kln_le); (focus kln_le))
  | (with_reducible apply Rv.Ext.refl)
  | ((with_reducible apply Rv.Ac.ext); (focus kln_le))
  | ((with_reducible apply Rv.sz_le); first | omega | (simp only [List.length_cons, List.length_nil, List.length_map, List.length_append]; omega))
  | ((with_reducible apply Rv.sz_lt); first | omega | (simp only [List.length_cons, List.length_nil, List.length_map, List.length_append]; omega)))
local macro_rules | `(tactic| lcg_sub) => `(tactic| first
  | assumption
  | ((with_reducible apply Rv.Ext.hl); (focus assumption); (focus lcg_sub))
  | ((with_reducible apply Rv.But.hl); (focus assumption); (focus lcg_sub); (focus lcg_sub))
  | ((with_reducible apply Rv.Ac.hl); (focus assumption); (focus lcg_sub))
  | ((with_reducible apply L2.SqL.of); (focus assumption))
  | ((with_reducible apply Rv.Ext.sq); (focus assumption); (focus lcg_sub))
  | ((with_reducible apply Rv.But.sq); (focus assumption); (focus lcg_sub); (focus lcg_sub))
  | ((with_reducible apply Rv.Ac.sq); (focus assumption); (focus lcg_sub))
  | ((with_reducible apply L2.SqT.of); (focus assumption))
  | ((with_reducible apply Rv.Ext.st); (focus assumption); (focus lcg_sub))
  | ((with_reducible apply Rv.But.st); (focus assumption); (focus lcg_sub); (focus lcg_sub))
  | ((with_reducible apply Rv.Ac.st); (focus assumption); (focus lcg_sub))
  | ((with_reducible apply L2.Rd.of); (focus lcg_sub))
  | ((with_reducible apply Rv.RivAt.ext); (focus assumption); (focus lcg_sub))
  | ((with_reducible apply Rv.RivAt.but); (focus assumption); (focus lcg_sub); (focus lcg_sub); (focus lcg_sub))
  | ((with_reducible apply Rv.RivAt.ac); (focus assumption); (focus lcg_sub))
  | (with_reducible apply Rv.nin_nil)
  | ((with_reducible apply Rv.BokAt.ext); (focus assumption); (focus lcg_sub))
  | ((with_reducible apply Rv.DicAt.ne); (focus assumption); (focus kln_le); (focus (intro _ z; cases z)))
  | ((with_reducible apply Rv.DicAt.nf); (focus assumption); (focus kln_le))
  | ((with_reducible apply Rv.Ext.tup); (focus assumption))
  | ((with_reducible apply Rv.Ac.tup); (focus assumption))
  | ((with_reducible apply Rv.nin_cons); (focus lcg_sub); (focus lcg_sub))
  | (with_reducible apply Rv.frs_nil)
  | ((with_reducible apply Rv.frs_cons); (focus lcg_sub); (focus lcg_sub))
  | ((with_reducible apply Ne.symm); (focus assumption))
  | ((with_reducible apply Rv.ne_nf); (focus assumption); (focus kln_le))
  | ((with_reducible apply Rv.ne_fn); (focus assumption); (focus kln_le))
  | ((with_reducible apply Rv.ne_k1); (focus assumption); (focus kln_le); (focus (first | (intro z; cases z; done) | ((with_reducible apply Rv.ins_ne); intro z; cases z; done))))
  | ((with_reducible apply Rv.ne_k2); (focus assumption); (focus kln_le); (focus (first | (intro z; cases z; done) | ((with_reducible apply Rv.ins_ne); intro z; cases z; done))))
  | ((with_reducible apply Rv.free2); (focus assumption); (focus kln_le))
  | (with_reducible apply Rv.Ac.refl)
  | ((with_reducible apply Rv.Ac.step'); (focus assumption); (focus lcg_sub))
  | ((with_reducible apply Rv.Ac.but'); (focus assumption); (focus lcg_sub); (focus lcg_sub))
  | (with_reducible apply Rv.Ext.refl)
  | ((with_reducible apply Rv.Ac.ext); (focus lcg_sub))
  | ((with_reducible apply Rv.sz_le); first | omega | (simp only [List.length_cons, List.length_nil, List.length_map, List.length_append]; omega))
  | ((with_reducible apply Rv.sz_lt); first | omega | (simp only [List.length_cons, List.length_nil, List.length_map, List.length_append]; omega)))
local macro_rules | `(tactic| lcg_off) => `(tactic| first
  | (with_reducible apply Rv.r_seq)
  | (with_reducible apply Rv.r_asg)
  | (with_reducible apply Rv.r_op)
  | ((with_reducible apply Rv.r_var); (focus with_unfolding_all rfl))
  | (with_reducible apply Rv.r_c)
  | (with_reducible apply Rv.r_if)
  | (with_reducible apply Rv.r_test)
  | (with_reducible apply Rv.r_fld)
  | (with_reducible apply Rv.r_cons)
  | (with_reducible apply Rv.r_nil)
  | (with_reducible apply Rv.r_ret)
  | (with_reducible apply Rv.r_drop)
  | (with_reducible apply Rv.r_meth)
  | (with_reducible apply Rv.r_fn)
  | (with_reducible apply Rv.r_CB)
  | (with_reducible apply Rv.r_BM)
  | (with_reducible apply Rv.r_BM0)
  | (with_reducible apply Rv.k_bl)
  | (with_reducible apply Rv.r_not)
  | (with_reducible apply Rv.r_and)
  | (with_reducible apply Rv.r_or)
  | (with_reducible apply Rv.k_andT)
  | (with_reducible apply Rv.k_andF)
  | (with_reducible apply Rv.k_orT)
  | (with_reducible apply Rv.k_orF)
  | (with_reducible apply Rv.r_tB)
  | (with_reducible apply Rv.r_chain)
  | (with_reducible apply Rv.r_un)
  | (with_reducible apply Rv.r_tup)
  | (with_reducible apply Rv.r_lst)
  | (with_reducible apply Rv.r_andV)
  | (with_reducible apply Rv.r_orV)
  | (with_reducible apply Rv.r_notV)
  | (with_reducible apply Rv.r_ifE)
  | (with_reducible apply Rv.k_notV)
  | (with_reducible apply Rv.k_andVT)
  | (with_reducible apply Rv.k_andVF)
  | (with_reducible apply Rv.k_orVT)
  | (with_reducible apply Rv.k_orVF)
  | (with_reducible apply Rv.k_addI)
  | (with_reducible apply Rv.k_subI)
  | ((with_reducible apply Rv.k_mulI); (focus (unfold L2.CMul; omega)))
  | ((with_reducible apply Rv.k_divI); (focus (unfold L2.CDiv; omega)))
  | ((with_reducible apply Rv.k_modI); (focus omega))
  | ((with_reducible apply Rv.k_powI); (focus (unfold L2.CPow; decide)))
  | (with_reducible apply Rv.k_negI)
  | (with_reducible apply Rv.k_ltI)
  | (with_reducible apply Rv.k_leI)
  | (with_reducible apply Rv.k_gtI)
  | (with_reducible apply Rv.k_geI)
  | (with_reducible apply Rv.k_eqI)
  | (with_reducible apply Rv.k_neI)
  | (with_reducible apply Rv.k_eqS)
  | (with_reducible apply Rv.k_neS)
  | (with_reducible apply Rv.k_isNN)
  | (with_reducible apply Rv.k_isNI)
  | (with_reducible apply Rv.k_isNR)
  | (with_reducible apply Rv.k_notNN)
  | (with_reducible apply Rv.k_notNI)
  | (with_reducible apply Rv.k_notNR)
  | ((with_reducible apply Rv.k_tyL); (focus lcg_sub))
  | ((with_reducible apply Rv.k_ixT); (focus lcg_sub); (focus with_unfolding_all rfl))
  | ((with_reducible apply Rv.k_ixL); (focus lcg_sub); (focus with_unfolding_all rfl))
  | ((with_reducible apply Rv.k_lenL); (focus lcg_sub))
  | ((with_reducible apply Rv.k_lenU); (focus lcg_sub))
  | ((with_reducible apply Rv.k_tup); (focus lcg_sub))
  | ((with_reducible apply Rv.k_lst); (focus lcg_sub))
  | ((with_reducible apply Rv.k_list); (focus lcg_sub))
  | ((with_reducible apply Rv.k_append); (focus lcg_sub); (focus lcg_sub))
  | ((with_reducible apply Rv.k_cat); (focus lcg_sub); (focus lcg_sub); (focus lcg_sub))
  | ((with_reducible apply Rv.k_clear); (focus lcg_sub))
  | (with_reducible apply Rv.k_int1)
  | (with_reducible apply Rv.k_max2)
  | (with_reducible apply Rv.k_min2)
  | (with_reducible apply Rv.k_str)
  | (with_reducible apply Rv.k_part)
  | (with_reducible apply Rv.r_M1)
  | (with_reducible apply Rv.r_dget)
  | (with_reducible apply Rv.r_din)
  | (with_reducible apply Rv.r_dnotin)
  | (with_reducible apply Rv.r_dget2)
  | (with_reducible apply Rv.r_sl)
  | (with_reducible apply Rv.r_nopart)
  | (with_reducible apply Rv.r_part)
  | (with_reducible apply Rv.r_for)
  | (with_reducible apply Rv.r_lc)
  | (with_reducible apply Rv.r_yes)
  | (with_reducible apply Rv.r_iList)
  | (with_reducible apply Rv.r_iRng1)
  | (with_reducible apply Rv.r_iRng2)
  | (with_reducible apply Rv.r_iZip)
  | (with_reducible apply Rv.r_iStr)
  | (with_reducible apply Rv.r_iKeys)
  | (with_reducible apply Rv.r_lstRg)
  | ((with_reducible apply Rv.k_itl); (focus lcg_sub))
  | ((with_reducible apply Rv.k_zip); (focus lcg_sub); (focus lcg_sub))
  | ((with_reducible apply Rv.k_rng1); (focus omega))
  | ((with_reducible apply Rv.k_rng2); (focus omega))
  | (with_reducible apply Rv.k_its)
  | (with_reducible apply Rv.r_retN)
  | (with_reducible apply Rv.r_next)
  | (with_reducible apply Rv.r_setF)
  | (with_reducible apply Rv.r_dput)
  | (with_reducible apply Rv.r_setI)
  | (with_reducible apply Rv.r_raise)
  | (with_reducible apply Rv.r_wF)
  | (with_reducible apply Rv.k_ifTT)
  | (with_reducible apply Rv.k_ifFF)
  | (with_reducible apply Rv.k_ifNT)
  | (with_reducible apply Rv.k_ifNF)
  | (with_reducible apply Rv.k_andNT)
  | (with_reducible apply Rv.k_andNF)
  | (with_reducible apply Rv.k_orNT)
  | (with_reducible apply Rv.k_orNF)
  | (with_reducible apply Rv.k_andVNT)
  | (with_reducible apply Rv.k_andVNF)
  | (with_reducible apply Rv.k_orVNT)
  | (with_reducible apply Rv.k_orVNF)
  | (with_reducible apply Rv.k_isB_ii)
  | (with_reducible apply Rv.k_isB_ib)
  | (with_reducible apply Rv.k_isB_bi)
  | (with_reducible apply Rv.k_isB_bb)
  | (with_reducible apply Rv.k_isB_ni)
  | (with_reducible apply Rv.k_isB_ss)
  | ((with_reducible apply Rv.k_isB_ll); (focus lcg_sub))
  | ((with_reducible apply Rv.k_isB_tt); (focus lcg_sub))
  | (with_reducible apply Rv.r_mk)
  | (with_reducible apply Rv.r_rg1)
  | (with_reducible apply Rv.k_rg1)
  | (with_reducible apply Rv.r_dpop1)
  | (with_reducible apply Rv.k_ifNNT)
  | (with_reducible apply Rv.k_ifNNF)
  | (with_reducible apply Rv.r_dropE)
  | (with_reducible apply Rv.r_dropR)
  | (with_reducible apply Rv.r_dropN)
  | (with_reducible apply Rv.r_dropM))
namespace Rv
open PySem L2
/-! ### sums -/
def sumR : Nat → (Nat → Int) → Int
  | 0, _ => 0
  | n + 1, f => sumR n f + f n
theorem sumR_congr {f g : Nat → Int} : ∀ {n : Nat}, (∀ i, i < n → f i = g i) → sumR n f = sumR n g
  | 0, _ => rfl
  | n + 1, h => by
    show sumR n f + f n = sumR n g + g n
    rw [sumR_congr fun i hi => h i (by omega), h n (by omega)]
theorem sumR_add (f g : Nat → Int) : ∀ n, sumR n (fun i => f i + g i) = sumR n f + sumR n g
  | 0 => rfl
  | n + 1 => by
    show sumR n _ + (f n + g n) = (sumR n f + f n) + (sumR n g + g n)
    rw [sumR_add f g n]
    omega
theorem sumR_sub (f g : Nat → Int) : ∀ n, sumR n (fun i => f i - g i) = sumR n f - sumR n g
  | 0 => rfl
  | n + 1 => by
    show sumR n _ + (f n - g n) = (sumR n f + f n) - (sumR n g + g n)
    rw [sumR_sub f g n]
    omega
theorem sumR_zero : ∀ n, sumR n (fun _ => 0) = 0
  | 0 => rfl
  | n + 1 => by
    show sumR n _ + 0 = 0
    rw [sumR_zero n]
    rfl
theorem sumR_if (p : Prop) [Decidable p] (f : Nat → Int) (n : Nat) : sumR n (fun i => if p then f i else 0) = if p then sumR n f else 0 := by
  by_cases h : p
  · rw [if_pos h]
    exact sumR_congr fun i _ => if_pos h
  · rw [if_neg h]
    exact (sumR_congr fun i _ => if_neg h).trans (sumR_zero n)
theorem sumR_one (f : Nat → Int) (k : Nat) : ∀ n, k < n → sumR n (fun i => if k = i then f i else 0) = f k
  | 0, h => absurd h (Nat.not_lt_zero _)
  | n + 1, h => by
    show sumR n _ + (if k = n then f n else 0) = f k
    by_cases e : k = n
    · subst e
      rw [if_pos rfl]
      have : sumR k (fun i => if k = i then f i else 0) = 0 := (sumR_congr fun i hi => if_neg (by omega)).trans (sumR_zero k)
      rw [this]
      omega
    · rw [if_neg e, sumR_one f k n (by omega)]
      omega
theorem sumR_nonneg {f : Nat → Int} : ∀ {n : Nat}, (∀ i, i < n → 0 ≤ f i) → 0 ≤ sumR n f
  | 0, _ => Int.le_refl _
  | n + 1, h => by
    show 0 ≤ sumR n f + f n
    have := sumR_nonneg (f := f) (n := n) fun i hi => h i (by omega)
    have := h n (by omega)
    omega
theorem sumR_le {f g : Nat → Int} : ∀ {n : Nat}, (∀ i, i < n → f i ≤ g i) → sumR n f ≤ sumR n g
  | 0, _ => Int.le_refl _
  | n + 1, h => by
    show sumR n f + f n ≤ sumR n g + g n
    have := sumR_le (f := f) (g := g) (n := n) fun i hi => h i (by omega)
    have := h n (by omega)
    omega
/-! ### lists by a function -/
def fV (n : Nat) (f : Nat → Int) : List V := (List.range n).map fun i => V.int (f i)
def fI (n : Nat) (f : Nat → Int) : List Int := (List.range n).map f
theorem fV_len (n : Nat) (f : Nat → Int) : (fV n f).length = n := by
  unfold fV
  rw [List.length_map, List.length_range]
theorem fI_len (n : Nat) (f : Nat → Int) : (fI n f).length = n := by
  unfold fI
  rw [List.length_map, List.length_range]
theorem fV_fI (n : Nat) (f : Nat → Int) : fV n f = (fI n f).map V.int := by
  unfold fV fI
  rw [List.map_map]
  rfl
theorem fI_get {n : Nat} {f : Nat → Int} {i : Nat} (h : i < n) : (fI n f).getD i 0 = f i := by
  unfold fI
  rw [List.getD_eq_getElem?_getD, List.getElem?_map, List.getElem?_range h]
  rfl
theorem fV_get {n : Nat} {f : Nat → Int} {i : Nat} (h : i < n) : (fV n f)[i]? = some (.int (f i)) := by
  unfold fV
  rw [List.getElem?_map, List.getElem?_range h]
  rfl
theorem fV_at {n : Nat} {f : Nat → Int} {i : Nat} (h : i < n) : atI (fV n f) (i : Int) = some (.int (f i)) := atI_nat (fV_get h)
theorem fV_congr {n : Nat} {f g : Nat → Int} (h : ∀ i, i < n → f i = g i) : fV n f = fV n g := List.map_congr_left fun i hi => by rw [h i (List.mem_range.mp hi)]
theorem fI_congr {n : Nat} {f g : Nat → Int} (h : ∀ i, i < n → f i = g i) : fI n f = fI n g := List.map_congr_left fun i hi => h i (List.mem_range.mp hi)
theorem fV_set {n : Nat} {f : Nat → Int} {k : Nat} {v : Int} : (fV n f).set k (.int v) = fV n fun i => if i = k then v else f i := by
  refine List.ext_getElem? fun i => ?_
  by_cases hi : i < n
  · rw [fV_get hi, List.getElem?_set, fV_len, fV_get hi]
    by_cases e : k = i
    · subst e
      rw [if_pos rfl, if_pos hi, if_pos rfl]
    · rw [if_neg e, if_neg fun z => e z.symm]
  · rw [List.getElem?_eq_none (by rw [List.length_set, fV_len]; omega), List.getElem?_eq_none (by rw [fV_len]; omega)]
theorem ints_fI (Y : List Int) : Y = fI Y.length fun i => Y.getD i 0 := by
  refine List.ext_getElem? fun i => ?_
  by_cases hi : i < Y.length
  · unfold fI
    rw [List.getElem?_map, List.getElem?_range hi]
    show Y[i]? = some (Y.getD i 0)
    rw [List.getD_eq_getElem?_getD, List.getElem?_eq_getElem hi]
    rfl
  · rw [List.getElem?_eq_none (by omega), List.getElem?_eq_none (by rw [fI_len]; omega)]
theorem ints_fV (Y : List Int) : Y.map V.int = fV Y.length fun i => Y.getD i 0 := by
  rw [fV_fI, ← ints_fI]
theorem map_at {Y : List Int} {i : Nat} (h : i < Y.length) : (Y.map V.int)[i]? = some (.int (Y.getD i 0)) := by
  rw [ints_fV]
  exact fV_get h
/-! ### the flows -/
theorem wayM_nodup (B : List Nat) : ∀ p, (wayM B p).Nodup := by
  intro p
  induction p using Nat.strongRecOn with
  | _ p ih =>
    cases p with
    | zero => rw [wayM_zero]; simp
    | succ n =>
      rw [wayM, List.nodup_cons]
      refine ⟨fun h => ?_, ih _ (by omega)⟩
      have := wayM_le _ _ h
      omega
/-- at each point a sum over all whose way goes through it -/
def flowM (B : List Nat) (net : Nat → Int) (q : Nat) : Int := sumR (B.length + 1) fun p => if q ∈ wayM B p then net p else 0
def netM (Y T : List Int) (p : Nat) : Int := Y.getD p 0 - T.getD p 0
structure Year (B : List Nat) (Y : List Int) : Prop where
  len : Y.length = B.length + 1
  ok : ∀ y ∈ Y, 0 ≤ y ∧ y ≤ 1000000
theorem Year.get {B : List Nat} {Y : List Int} (h : Year B Y) (i : Nat) : 0 ≤ Y.getD i 0 ∧ Y.getD i 0 ≤ 1000000 := by
  rw [List.getD_eq_getElem?_getD]
  by_cases hi : i < Y.length
  · rw [List.getElem?_eq_getElem hi]
    exact h.ok _ (List.getElem_mem hi)
  · rw [List.getElem?_eq_none (by omega)]
    exact ⟨by decide, by decide⟩
/-- the way, gone on as long as the point is not less than m -/
def wayT (B : List Nat) (m : Nat) : Nat → List Nat
  | 0 => [0]
  | p + 1 => if m ≤ p + 1 then (p + 1) :: wayT B m (min (B.getD p 0) p) else [p + 1]
termination_by p => p
decreasing_by omega
theorem wayT_few {B : List Nat} {m k : Nat} (h : k < m) : wayT B m k = [k] := by
  cases k with
  | zero => unfold wayT; rfl
  | succ p => rw [wayT, if_neg (by omega)]
theorem wayT_all {B : List Nat} : ∀ k, wayT B 1 k = wayM B k := by
  intro k
  induction k using Nat.strongRecOn with
  | _ k ih =>
    cases k with
    | zero => rw [wayM_zero]; unfold wayT; rfl
    | succ p => rw [wayT, wayM, if_pos (by omega), ih _ (by omega)]
theorem wayT_step {B : List Nat} (hB : Riv B) {m : Nat} (hm : 1 ≤ m) (hm2 : m ≤ B.length) : ∀ k, (∀ q, q ∈ wayT B m k ↔ q ∈ wayT B (m + 1) k ∨ (m ∈ wayT B (m + 1) k ∧ q = B.getD (m - 1) 0)) ∧ (m ∈ wayT B (m + 1) k → ∀ q ∈ wayT B (m + 1) k, m ≤ q) := by
  have hlow := hB.low (m - 1) (by omega)
  intro k
  induction k using Nat.strongRecOn with
  | _ k ih =>
    cases k with
    | zero =>
      have e : ∀ m, wayT B m 0 = [0] := fun m => by unfold wayT; rfl
      rw [e, e]
      have n : ¬ m ∈ [0] := by simp; omega
      exact ⟨fun q => ⟨fun h => .inl h, fun h => h.elim id fun z => absurd z.1 n⟩, fun h => absurd h n⟩
    | succ p =>
      by_cases h1 : m + 1 ≤ p + 1
      · obtain ⟨i1, i2⟩ := ih (min (B.getD p 0) p) (by omega)
        have e1 : wayT B m (p + 1) = (p + 1) :: wayT B m (min (B.getD p 0) p) := by rw [wayT, if_pos (by omega)]
        have e2 : wayT B (m + 1) (p + 1) = (p + 1) :: wayT B (m + 1) (min (B.getD p 0) p) := by rw [wayT, if_pos h1]
        rw [e1, e2]
        have n : m ≠ p + 1 := by omega
        have hmem : m ∈ (p + 1) :: wayT B (m + 1) (min (B.getD p 0) p) ↔ m ∈ wayT B (m + 1) (min (B.getD p 0) p) := ⟨fun h => (List.mem_cons.mp h).elim (fun z => absurd z n) id, fun h => List.mem_cons_of_mem _ h⟩
        refine ⟨fun q => ?_, fun h q hq => ?_⟩
        · rw [hmem, List.mem_cons, List.mem_cons, i1 q]
          exact ⟨fun h => by rcases h with h | h | h; exact .inl (.inl h); exact .inl (.inr h); exact .inr h, fun h => by rcases h with (h | h) | h; exact .inl h; exact .inr (.inl h); exact .inr (.inr h)⟩
        · rcases List.mem_cons.mp hq with z | z
          · omega
          · exact i2 (hmem.mp h) q z
      · have e2 : wayT B (m + 1) (p + 1) = [p + 1] := wayT_few (by omega)
        rw [e2]
        by_cases h2 : m = p + 1
        · subst h2
          have e1 : wayT B (p + 1) (p + 1) = [p + 1, B.getD p 0] := by
            have hl : B.getD p 0 ≤ p := hlow
            rw [wayT, if_pos (Nat.le_refl _), Nat.min_eq_left hl, wayT_few (by omega)]
          rw [e1]
          refine ⟨fun q => ?_, fun _ q hq => ?_⟩
          · simp
          · simp at hq
            omega
        · have e1 : wayT B m (p + 1) = [p + 1] := wayT_few (by omega)
          rw [e1]
          have n : ¬ m ∈ [p + 1] := by simp; omega
          exact ⟨fun q => ⟨fun h => .inl h, fun h => h.elim id fun z => absurd z.1 n⟩, fun h => absurd h n⟩
def flowT (B : List Nat) (m : Nat) (net : Nat → Int) (q : Nat) : Int := sumR (B.length + 1) fun p => if q ∈ wayT B m p then net p else 0
theorem flowT_all (B : List Nat) (net : Nat → Int) (q : Nat) : flowT B 1 net q = flowM B net q := sumR_congr fun p _ => by rw [wayT_all]
theorem flowT_none (B : List Nat) (net : Nat → Int) {q : Nat} (h : q ≤ B.length) : flowT B (B.length + 1) net q = net q := by
  rw [← sumR_one net q (B.length + 1) (by omega)]
  refine sumR_congr fun p hp => ?_
  rw [wayT_few hp]
  by_cases e : q = p
  · rw [if_pos e, if_pos (by rw [e]; exact List.mem_cons_self)]
  · rw [if_neg e, if_neg (by simp; exact e)]
theorem flowT_step {B : List Nat} (hB : Riv B) {m : Nat} (hm : 1 ≤ m) (hm2 : m ≤ B.length) (net : Nat → Int) (q : Nat) :
    flowT B m net q = if q = B.getD (m - 1) 0 then flowT B (m + 1) net q + flowT B (m + 1) net m else flowT B (m + 1) net q := by
  have hlow := hB.low (m - 1) (by omega)
  have key : ∀ k, (if q ∈ wayT B m k then net k else 0) = (if q ∈ wayT B (m + 1) k then net k else 0) + (if q = B.getD (m - 1) 0 then (if m ∈ wayT B (m + 1) k then net k else 0) else 0) := fun k => by
    obtain ⟨i1, i2⟩ := wayT_step hB hm hm2 k
    by_cases h1 : q ∈ wayT B (m + 1) k
    · rw [if_pos ((i1 q).mpr (.inl h1)), if_pos h1]
      by_cases h2 : q = B.getD (m - 1) 0
      · rw [if_pos h2, if_neg, Int.add_zero]
        intro h3
        have := i2 h3 q h1
        omega
      · rw [if_neg h2, Int.add_zero]
    · rw [if_neg h1, Int.zero_add]
      by_cases h2 : q = B.getD (m - 1) 0
      · rw [if_pos h2]
        by_cases h3 : m ∈ wayT B (m + 1) k
        · rw [if_pos h3, if_pos ((i1 q).mpr (.inr ⟨h3, h2⟩))]
        · rw [if_neg h3, if_neg fun z => ((i1 q).mp z).elim h1 fun y => h3 y.1]
      · rw [if_neg h2, if_neg fun z => ((i1 q).mp z).elim h1 fun y => h2 y.2]
  unfold flowT
  rw [sumR_congr fun k _ => key k, sumR_add, sumR_if]
  by_cases h2 : q = B.getD (m - 1) 0
  · rw [if_pos h2, if_pos h2]
  · rw [if_neg h2, if_neg h2, Int.add_zero]
def sp_year_of (c : Cs) : Sp := fun vs H Q E => ∃ r l B y Y, vs = [.ref r, .ref y] ∧ RivAt c H r l B ∧ SqL c.K H y (Y.map V.int) ∧ Y.length ≤ 1000 ∧ (Year B Y → Q .non H) ∧ (¬ Year B Y → E (.ref c.badYear) none H)
def sp_flows (c : Cs) : Sp := fun vs H Q E => ∃ r l B y t Y T, vs = [.ref r, .ref y, .ref t] ∧ RivAt c H r l B ∧ SqL c.K H y (Y.map V.int) ∧ SqL c.K H t (T.map V.int) ∧ Y.length ≤ 1000 ∧ (Year B Y → T.length = Y.length) ∧
  (Year B Y → ∀ a H', H a = none → Ext H H' → H' a = some (.lst (fV (B.length + 1) (flowM B (netM Y T)))) → Q (.ref a) H') ∧ (¬ Year B Y → E (.ref c.badYear) none H)
-- year_of: 0 river 1 year 2 inflow
def t_year_of (c : Cs) (E : XK) : TS :=
  (tSeq (tIfS (tTest (tOp rNe (tCB (rLenS c.K) (tCons (tVar 1) tNil)) (tMethS c.river "points" (sp_River_points c) (wF E) (tVar 0) tNil))) (tRaise (wF E) c.badYear) tNext)
  (tFor (iList c.K (tVar 1)) (gName 2)
  (tIfS (tNot (tTest (tChain rLeI rLeI (tC (.int 0)) (tVar 2) (tC (.int 1000000))))) (tRaise (wF E) c.badYear) tNext)))
-- flows: 0 river 1 year 2 taken 3 found 4 inflow 5 out 6 back 7 point
def t_flows (c : Cs) (E : XK) : TS :=
  (tSeq (tDrop (tFn (sp_year_of c) (wF E) (tCons (tVar 0) (tCons (tVar 1) tNil))))
  (tSeq (tAsg (tLc (iZip c.K (tCons (tVar 1) (tCons (tVar 2) tNil))) (gTup c.K 2 (gCons (gName 4) (gCons (gName 5) gNil))) tYes (tOp rSubI (tVar 4) (tVar 5)) [4, 5]) (gName 3))
  (tSeq (tFor (iRng1 (tCons (tOp rSubI (tMethS c.river "points" (sp_River_points c) (wF E) (tVar 0) tNil) (tC (.int 1))) tNil)) (gName 6)
  (tSeq (tAsg (tOp rSubI (tOp rSubI (tMethS c.river "points" (sp_River_points c) (wF E) (tVar 0) tNil) (tC (.int 1))) (tVar 6)) (gName 7))
  (tAsg (tOp rAddI (tOp (rIxL c.K) (tVar 3) (tMethS c.river "below" (sp_River_below c) (wF E) (tVar 0) (tCons (tVar 7) tNil))) (tOp (rIxL c.K) (tVar 3) (tVar 7))) (gSub (tVar 3) (tMethS c.river "below" (sp_River_below c) (wF E) (tVar 0) (tCons (tVar 7) tNil)) rSetL))))
  (tRet (tVar 3)))))
section
variable {c : Cs}
theorem pure_year_of (vs : List V) (H : Hp) (Q : VK) (E : XK) (h : sp_year_of c vs H Q E) : t_year_of c E { nx := fun _ H' => Q .non H', rt := Q } (start ["river", "year", "inflow"] vs) H := by
  obtain ⟨r, l, B, y, Y, rfl, A, hy, hl, k, kE⟩ := h
  unfold t_year_of
  repeat lcg_off
  refine k_meth A.ob.choose_spec (by lcg_src) ?_
  repeat lcg_off
  refine ⟨r, l, B, rfl, A, ?_⟩
  repeat lcg_off
  rw [List.length_map]
  refine k_ifN (fun h1 => ?_) (fun h1 => ?_)
  · repeat lcg_off
    exact kE fun hY => h1 (by have := hY.len; omega)
  · repeat lcg_off
    refine k_forL (fun i σ H' => (∃ v, σ = [some (.ref r), some (.ref y), v]) ∧ H' = H ∧ ∀ j, j < i → 0 ≤ Y.getD j 0 ∧ Y.getD j 0 ≤ 1000000) ⟨⟨_, rfl⟩, rfl, fun j hj => absurd hj (Nat.not_lt_zero _)⟩ (fun i σ H' _ p => by rw [p.2.1]; exact hy) ?_ ?_
    · rintro i x σ H' hx ⟨⟨v, rfl⟩, rfl, hj⟩
      have hi : i < Y.length := by
        by_cases z : i < Y.length
        · exact z
        · rw [List.getElem?_eq_none (by rw [List.length_map]; omega)] at hx
          cases hx
      rw [map_at hi] at hx
      cases hx
      show tIfS _ _ _ _ [some (.ref r), some (.ref y), some (.int (Y.getD i 0))] _
      repeat lcg_off
      have hbad : ¬ (0 ≤ Y.getD i 0 ∧ Y.getD i 0 ≤ 1000000) → ¬ Year B Y := fun z hY => z (hY.get i)
      refine k_chainD (fun h2 => ?_) (fun h2 => ?_)
      · repeat lcg_off
        refine k_ifN (fun h3 => ?_) (fun h3 => ?_)
        · repeat lcg_off
          exact kE (hbad fun z => h3 z.2)
        · repeat lcg_off
          refine ⟨⟨_, rfl⟩, rfl, fun j hj' => ?_⟩
          by_cases e : j = i
          · subst e
            exact ⟨h2, h3⟩
          · exact hj j (by omega)
      · repeat lcg_off
        exact kE (hbad fun z => h2 z.1)
    · rintro σ H' ⟨⟨v, rfl⟩, rfl, hj⟩
      rw [List.length_map] at hj
      refine k ⟨by omega, fun y hy => ?_⟩
      obtain ⟨j, hj', e⟩ := List.getElem_of_mem hy
      have := hj j hj'
      rw [List.getD_eq_getElem?_getD, List.getElem?_eq_getElem hj', e] at this
      exact this
theorem pure_flows (vs : List V) (H : Hp) (Q : VK) (E : XK) (h : sp_flows c vs H Q E) : t_flows c E { nx := fun _ H' => Q .non H', rt := Q } (start ["river", "year", "taken", "found", "inflow", "out", "back", "point"] vs) H := by
  obtain ⟨r, l, B, y, t, Y, T, rfl, A, hy, ht, hl, hT, k, kE⟩ := h
  have hf := A.ok.few
  unfold t_flows
  repeat lcg_off
  refine ⟨r, l, B, y, Y, rfl, A, hy, hl, fun hY => ?_, kE⟩
  have hYl := hY.len
  have hT := hT hY
  repeat lcg_off
  refine k_lcZ (n := B.length + 1) (by lcg_sub) (by lcg_sub) (by rw [List.length_map]; omega) (by rw [List.length_map]; omega) (fun i => .int (netM Y T i)) (fun x y => rfl) (by omega) (fun i x z hx hz H1 ac Q1 q => ?_) (fun D H1 hD e1 h1 => ?_)
  · have hi : i < Y.length := by
      by_cases z : i < Y.length
      · exact z
      · rw [List.getElem?_eq_none (by rw [List.length_map]; omega)] at hx
        cases hx
    rw [map_at hi] at hx
    rw [map_at (by omega)] at hz
    cases hx
    cases hz
    repeat lcg_off
    exact q H1 (Ext.refl _)
  have k' := k hY
  have h1' : H1 D = some (.lst (fV (B.length + 1) (flowT B (B.length + 1) (netM Y T)))) := by
    rw [h1]
    exact congrArg (fun z => some (HO.lst z)) (List.map_congr_left fun i hi => by rw [flowT_none B _ (by have := List.mem_range.mp hi; omega)])
  repeat lcg_off
  refine k_meth (A.ext e1).ob.choose_spec (by lcg_src) ?_
  repeat lcg_off
  refine ⟨r, l, B, rfl, A.ext e1, ?_⟩
  repeat lcg_off
  have en : ((B.length : Int) + 1 - 1).toNat = B.length := by omega
  rw [en]
  refine k_forR (fun i σ H' => (∃ a1 a2 a3 a4, σ = [some (.ref r), some (.ref y), some (.ref t), some (.ref D), a1, a2, a3, a4]) ∧ But [D] H1 H' ∧ H' D = some (.lst (fV (B.length + 1) (flowT B (B.length + 1 - i) (netM Y T))))) ⟨⟨_, _, _, _, rfl⟩, (Ext.refl _).but, h1'⟩ ?_ ?_
  · rintro i σ H2 hi ⟨⟨a1, a2, a3, a4, rfl⟩, b2, h2⟩
    rw [Int.zero_add]
    show tSeq _ _ _ [some (.ref r), some (.ref y), some (.ref t), some (.ref D), a1, a2, some (.int (i : Int)), a4] _
    have A2 : RivAt c H2 r l B := A.ac (e1.ac.but b2 (by lcg_sub))
    repeat lcg_off
    refine k_meth A2.ob.choose_spec (by lcg_src) ?_
    repeat lcg_off
    refine ⟨r, l, B, rfl, A2, ?_⟩
    repeat lcg_off
    have em : (B.length : Int) + 1 - 1 - (i : Int) = ((B.length - i : Nat) : Int) := by omega
    rw [em]
    refine k_meth A2.ob.choose_spec (by lcg_src) ?_
    repeat lcg_off
    obtain ⟨m, hm⟩ : ∃ m : Nat, B.length - i = m + 1 := ⟨B.length - i - 1, by omega⟩
    rw [hm]
    have hlow := A.ok.low m (by omega)
    refine ⟨r, l, B, _, rfl, A2, fun p ep hp => ?_, fun hn => absurd (by omega) hn⟩
    obtain rfl : p = m + 1 := by omega
    dsimp only [belO]
    refine k_ixL (by lcg_sub) (fV_at (by omega)) ?_
    repeat lcg_off
    refine k_ixL (by lcg_sub) (fV_at (by omega)) ?_
    repeat lcg_off
    refine k_meth A2.ob.choose_spec (by lcg_src) ?_
    repeat lcg_off
    refine ⟨r, l, B, _, rfl, A2, fun p ep hp => ?_, fun hn => absurd (by omega) hn⟩
    obtain rfl : p = m + 1 := by omega
    dsimp only [belO]
    refine k_setI (k := B.getD m 0) (by lcg_sub) (ixN_at (by rw [fV_len]; omega)) fun H3 b3 h3 => ?_
    repeat lcg_off
    refine ⟨⟨_, _, _, _, rfl⟩, b2.trans b3, ?_⟩
    rw [h3, fV_set]
    refine congrArg (fun z => some (HO.lst z)) (fV_congr fun q hq => ?_)
    have e4 : B.length + 1 - (i + 1) = m + 1 := by omega
    have e5 : B.length + 1 - i = m + 1 + 1 := by omega
    rw [e4, e5, flowT_step A.ok (m := m + 1) (by omega) (by omega)]
    by_cases hq' : q = B.getD m 0
    · subst hq'
      rfl
    · have : ¬ q = B.getD (m + 1 - 1) 0 := hq'
      rw [if_neg hq', if_neg this]
  · rintro σ H2 ⟨⟨a1, a2, a3, a4, rfl⟩, b2, h2⟩
    repeat lcg_off
    refine k' D H2 hD (e1.ac.but b2 (by lcg_sub)).ext ?_
    rw [h2]
    have e4 : B.length + 1 - B.length = 1 := by omega
    rw [e4]
    exact congrArg (fun z => some (HO.lst z)) (fV_congr fun q hq => flowT_all B _ q)
end
end Rv

end
section
local macro_rules | `(tactic| lcg_src) => `(tactic| first
  | assumption
  | (with_reducible exact Rv.lk_here)
  | (refine (Rv.lk_past (by decide +kernel)).trans ?_; lcg_src)
  | (with_unfolding_all exact rfl))
local macro_rules | `(tactic| keq_hits) => `(tactic| first
  | assumption
  | ((with_reducible apply Rv.Ext.hl); (focus assumption); (focus keq_hits))
  | ((with_reducible apply Rv.But.hl); (focus assumption); (focus keq_hits); (focus keq_hits))
  | ((with_reducible apply Rv.Ac.hl); (focus assumption); (focus keq_hits))
  | ((with_reducible apply L2.SqL.of); (focus assumption))
  | ((with_reducible apply Rv.Ext.sq); (focus assumption); (focus keq_hits))
  | ((with_reducible apply Rv.But.sq); (focus assumption); (focus keq_hits); (focus keq_hits))
  | ((with_reducible apply Rv.Ac.sq); (focus assumption); (focus keq_hits))
  | ((with_reducible apply L2.SqT.of); (focus assumption))
  | ((with_reducible apply Rv.Ext.st); (focus assumption); (focus keq_hits))
  | ((with_reducible apply Rv.But.st); (focus assumption); (focus keq_hits); (focus keq_hits))
  | ((with_reducible apply Rv.Ac.st); (focus assumption); (focus keq_hits))
  | ((with_reducible apply L2.Rd.of); (focus keq_hits))
  | ((with_reducible apply Rv.RivAt.ext); (focus assumption); (focus keq_hits))
  | ((with_reducible apply Rv.RivAt.but); (focus assumption); (focus keq_hits); (focus keq_hits); (focus keq_hits))
  | ((with_reducible apply Rv.RivAt.ac); (focus assumption); (focus keq_hits))
  | (with_reducible apply Rv.nin_nil)
  | ((with_reducible apply Rv.BokAt.ext); (focus assumption); (focus keq_hits))
  | ((with_reducible apply Rv.DicAt.ne); (focus assumption); (focus assumption); (focus (intro _ z; cases z)))
  | ((with_reducible apply Rv.DicAt.nf); (focus assumption); (focus assumption))
  | ((with_reducible apply Rv.Ext.tup); (focus assumption))
  | ((with_reducible apply Rv.Ac.tup); (focus assumption))
  | ((with_reducible apply Rv.nin_cons); (focus keq_hits); (focus keq_hits))
  | (with_reducible apply Rv.frs_nil)
  | ((with_reducible apply Rv.frs_cons); (focus keq_hits); (focus keq_hits))
  | ((with_reducible apply Ne.symm); (focus assumption))
  | ((with_reducible apply Rv.ne_nf); (focus assumption); (focus assumption))
  | ((with_reducible apply Rv.ne_fn); (focus assumption); (focus assumption))
  | ((with_reducible apply Rv.ne_k1); (focus assumption); (focus assumption); (focus (first | (intro z; cases z; done) | ((with_reducible apply Rv.ins_ne); intro z; cases z; done))))
  | ((with_reducible apply Rv.ne_k2); (focus assumption); (focus assumption); (focus (first | (intro z; cases z; done) | ((with_reducible apply Rv.ins_ne); intro z; cases z; done))))
  | ((with_reducible apply Rv.free2); (focus assumption); (focus assumption))
  | (with_reducible apply Rv.Ac.refl)
  | ((with_reducible apply Rv.Ac.step'); (focus assumption); (focus keq_hits))
  | ((with_reducible apply Rv.Ac.but'); (focus assumption); (focus keq_hits); (focus keq_hits))
  | (with_reducible apply Rv.Ext.refl)
  | ((with_reducible apply Rv.Ac.ext); (focus keq_hits))
  | ((with_reducible apply Rv.sz_le); first | omega | (simp only [List.length_cons, List.length_nil, List.length_map, List.length_append]; omega))
  | ((with_reducible apply Rv.sz_lt); first | omega | (simp only [List.length_cons, List.length_nil, List.length_map, List.length_append]; omega)))
local macro_rules | `(tactic| kln_le) => `(tactic| first
  | assumption
  | ((with_reducible apply Rv.Ext.hl); (focus assumption); (focus kln_le))
  | ((with_reducible apply Rv.But.hl); (focus assumption); (focus kln_le); (focus kln_le))
  | ((with_reducible apply Rv.Ac.hl); (focus assumption); (focus kln_le))
  | ((with_reducible apply L2.SqL.of); (focus assumption))
  | ((with_reducible apply Rv.Ext.sq); (focus assumption); (focus kln_le))
  | ((with_reducible apply Rv.But.sq); (focus assumption); (focus kln_le); (focus kln_le))
  | ((with_reducible apply Rv.Ac.sq); (focus assumption); (focus kln_le))
  | ((with_reducible apply L2.SqT.of); (focus assumption))
  | ((with_reducible apply Rv.Ext.st); (focus assumption); (focus kln_le))
  | ((with_reducible apply Rv.But.st); (focus assumption); (focus kln_le); (focus kln_le))
  | ((with_reducible apply Rv.Ac.st); (focus assumption); (focus kln_le))
  | ((with_reducible apply L2.Rd.of); (focus kln_le))
  | ((with_reducible apply Rv.RivAt.ext); (focus assumption); (focus kln_le))
  | ((with_reducible apply Rv.RivAt.but); (focus assumption); (focus kln_le); (focus kln_le); (focus kln_le))
  | ((with_reducible apply Rv.RivAt.ac); (focus assumption); (focus kln_le))
  | (with_reducible apply Rv.nin_nil)
  | ((with_reducible apply Rv.BokAt.ext); (focus assumption); (focus kln_le))
  | ((with_reducible apply Rv.DicAt.ne); (focus assumption); (focus keq_hits); (focus (intro _ z; cases z)))
  | ((with_reducible apply Rv.DicAt.nf); (focus assumption); (focus keq_hits))
  | ((with_reducible apply Rv.Ext.tup); (focus assumption))
  | ((with_reducible apply Rv.Ac.tup); (focus assumption))
  | ((with_reducible apply Rv.nin_cons); (focus kln_le); (focus kln_le))
  | (with_reducible apply Rv.frs_nil)
  | ((with_reducible apply Rv.frs_cons); (focus kln_le); (focus kln_le))
  | ((with_reducible apply Ne.symm); (focus assumption))
  | ((with_reducible apply Rv.ne_nf); (focus assumption); (focus keq_hits))
  | ((with_reducible apply Rv.ne_fn); (focus assumption); (focus keq_hits))
  | ((with_reducible apply Rv.ne_k1); (focus assumption); (focus keq_hits); (focus (first | (intro z; cases z; done) | ((with_reducible apply Rv.ins_ne); intro z; cases z; done))))
  | ((with_reducible apply Rv.ne_k2); (focus assumption); (focus keq_hits); (focus (first | (intro z; cases z; done) | ((with_reducible apply Rv.ins_ne); intro z; cases z; done))))
  | ((with_reducible apply Rv.free2); (focus assumption); (focus keq_hits))
  | (with_reducible apply Rv.Ac.refl)
  | ((with_reducible apply Rv.Ac.step'); (focus assumption); (focus kln_le))
  | ((with_reducible apply Rv.Ac.but'); (focus assumption); (focus kln_le); (focus kln_le))
  | (with_reducible apply Rv.Ext.refl)
  | ((with_reducible apply Rv.Ac.ext); (focus kln_le))
  | ((with_reducible apply Rv.sz_le); first | omega | (simp only [List.length_cons, List.length_nil, List.length_map, List.length_append]; omega))
  | ((with_reducible apply Rv.sz_lt); first | omega | (simp only [List.length_cons, List.length_nil, List.length_map, List.length_append]; omega)))
local macro_rules | `(tactic| lcg_sub) => `(tactic| first
  | assumption
  | ((with_reducible apply Rv.Ext.hl); (focus assumption); (focus lcg_sub))
  | ((with_reducible apply Rv.But.hl); (focus assumption); (focus lcg_sub); (focus lcg_sub))
  | ((with_reducible apply Rv.Ac.hl); (focus assumption); (focus lcg_sub))
  | ((with_reducible apply L2.SqL.of); (focus assumption))
  | ((with_reducible apply Rv.Ext.sq); (focus assumption); (focus lcg_sub))
  | ((with_reducible apply Rv.But.sq); (focus assumption); (focus lcg_sub); (focus lcg_sub))
  | ((with_reducible apply Rv.Ac.sq); (focus assumption); (focus lcg_sub))
  | ((with_reducible apply L2.SqT.of); (focus assumption))
  | ((with_reducible apply Rv.Ext.st); (focus assumption); (focus lcg_sub))
  | ((with_reducible apply Rv.But.st); (focus assumption); (focus lcg_sub); (focus lcg_sub))
  | ((with_reducible apply Rv.Ac.st); (focus assumption); (focus lcg_sub))
  | ((with_reducible apply L2.Rd.of); (focus lcg_sub))
  | ((with_reducible apply Rv.RivAt.ext); (focus assumption); (focus lcg_sub))
  | ((with_reducible apply Rv.RivAt.but); (focus assumption); (focus lcg_sub); (focus lcg_sub); (focus lcg_sub))
  | ((with_reducible apply Rv.RivAt.ac); (focus assumption); (focus lcg_sub))
  | (with_reducible apply Rv.nin_nil)
  | ((with_reducible apply Rv.BokAt.ext); (focus assumption); (focus lcg_sub))
  | ((with_reducible apply Rv.DicAt.ne); (focus assumption); (focus kln_le); (focus (intro _ z; cases z)))
  | ((with_reducible apply Rv.DicAt.nf); (focus assumption); (focus kln_le))
  | ((with_reducible apply Rv.Ext.tup); (focus assumption))
  | ((with_reducible apply Rv.Ac.tup); (focus assumption))
  | ((with_reducible apply Rv.nin_cons); (focus lcg_sub); (focus lcg_sub))
  | (with_reducible apply Rv.frs_nil)
  | ((with_reducible apply Rv.frs_cons); (focus lcg_sub); (focus lcg_sub))
  | ((with_reducible apply Ne.symm); (focus assumption))
  | ((with_reducible apply Rv.ne_nf); (focus assumption); (focus kln_le))
  | ((with_reducible apply Rv.ne_fn); (focus assumption); (focus kln_le))
  | ((with_reducible apply Rv.ne_k1); (focus assumption); (focus kln_le); (focus (first | (intro z; cases z; done) | ((with_reducible apply Rv.ins_ne); intro z; cases z; done))))
  | ((with_reducible apply Rv.ne_k2); (focus assumption); (focus kln_le); (focus (first | (intro z; cases z; done) | ((with_reducible apply Rv.ins_ne); intro z; cases z; done))))
  | ((with_reducible apply Rv.free2); (focus assumption); (focus kln_le))
  | (with_reducible apply Rv.Ac.refl)
  | ((with_reducible apply Rv.Ac.step'); (focus assumption); (focus lcg_sub))
  | ((with_reducible apply Rv.Ac.but'); (focus assumption); (focus lcg_sub); (focus lcg_sub))
  | (with_reducible apply Rv.Ext.refl)
  | ((with_reducible apply Rv.Ac.ext); (focus lcg_sub))
  | ((with_reducible apply Rv.sz_le); first | omega | (simp only [List.length_cons, List.length_nil, List.length_map, List.length_append]; omega))
  | ((with_reducible apply Rv.sz_lt); first | omega | (simp only [List.length_cons, List.length_nil, List.length_map, List.length_append]; omega)))
local macro_rules | `(tactic| lcg_off) => `(tactic| first
  | (with_reducible apply Rv.r_seq)
  | (with_reducible apply Rv.r_asg)
  | (with_reducible apply Rv.r_op)
  | ((with_reducible apply Rv.r_var); (focus with_unfolding_all rfl))
  | (with_reducible apply Rv.r_c)
  | (with_reducible apply Rv.r_if)
  | (with_reducible apply Rv.r_test)
  | (with_reducible apply Rv.r_fld)
  | (with_reducible apply Rv.r_cons)
  | (with_reducible apply Rv.r_nil)
  | (with_reducible apply Rv.r_ret)
  | (with_reducible apply Rv.r_drop)
  | (with_reducible apply Rv.r_meth)
  | (with_reducible apply Rv.r_fn)
  | (with_reducible apply Rv.r_CB)
  | (with_reducible apply Rv.r_BM)
  | (with_reducible apply Rv.r_BM0)
  | (with_reducible apply Rv.k_bl)
  | (with_reducible apply Rv.r_not)
  | (with_reducible apply Rv.r_and)
  | (with_reducible apply Rv.r_or)
  | (with_reducible apply Rv.k_andT)
  | (with_reducible apply Rv.k_andF)
  | (with_reducible apply Rv.k_orT)
  | (with_reducible apply Rv.k_orF)
  | (with_reducible apply Rv.r_tB)
  | (with_reducible apply Rv.r_chain)
  | (with_reducible apply Rv.r_un)
  | (with_reducible apply Rv.r_tup)
  | (with_reducible apply Rv.r_lst)
  | (with_reducible apply Rv.r_andV)
  | (with_reducible apply Rv.r_orV)
  | (with_reducible apply Rv.r_notV)
  | (with_reducible apply Rv.r_ifE)
  | (with_reducible apply Rv.k_notV)
  | (with_reducible apply Rv.k_andVT)
  | (with_reducible apply Rv.k_andVF)
  | (with_reducible apply Rv.k_orVT)
  | (with_reducible apply Rv.k_orVF)
  | (with_reducible apply Rv.k_addI)
  | (with_reducible apply Rv.k_subI)
  | ((with_reducible apply Rv.k_mulI); (focus (unfold L2.CMul; omega)))
  | ((with_reducible apply Rv.k_divI); (focus (unfold L2.CDiv; omega)))
  | ((with_reducible apply Rv.k_modI); (focus omega))
  | ((with_reducible apply Rv.k_powI); (focus (unfold L2.CPow; decide)))
  | (with_reducible apply Rv.k_negI)
  | (with_reducible apply Rv.k_ltI)
  | (with_reducible apply Rv.k_leI)
  | (with_reducible apply Rv.k_gtI)
  | (with_reducible apply Rv.k_geI)
  | (with_reducible apply Rv.k_eqI)
  | (with_reducible apply Rv.k_neI)
  | (with_reducible apply Rv.k_eqS)
  | (with_reducible apply Rv.k_neS)
  | (with_reducible apply Rv.k_isNN)
  | (with_reducible apply Rv.k_isNI)
  | (with_reducible apply Rv.k_isNR)
  | (with_reducible apply Rv.k_notNN)
  | (with_reducible apply Rv.k_notNI)
  | (with_reducible apply Rv.k_notNR)
  | ((with_reducible apply Rv.k_tyL); (focus lcg_sub))
  | ((with_reducible apply Rv.k_ixT); (focus lcg_sub); (focus with_unfolding_all rfl))
  | ((with_reducible apply Rv.k_ixL); (focus lcg_sub); (focus with_unfolding_all rfl))
  | ((with_reducible apply Rv.k_lenL); (focus lcg_sub))
  | ((with_reducible apply Rv.k_lenU); (focus lcg_sub))
  | ((with_reducible apply Rv.k_tup); (focus lcg_sub))
  | ((with_reducible apply Rv.k_lst); (focus lcg_sub))
  | ((with_reducible apply Rv.k_list); (focus lcg_sub))
  | ((with_reducible apply Rv.k_append); (focus lcg_sub); (focus lcg_sub))
  | ((with_reducible apply Rv.k_cat); (focus lcg_sub); (focus lcg_sub); (focus lcg_sub))
  | ((with_reducible apply Rv.k_clear); (focus lcg_sub))
  | (with_reducible apply Rv.k_int1)
  | (with_reducible apply Rv.k_max2)
  | (with_reducible apply Rv.k_min2)
  | (with_reducible apply Rv.k_str)
  | (with_reducible apply Rv.k_part)
  | (with_reducible apply Rv.r_M1)
  | (with_reducible apply Rv.r_dget)
  | (with_reducible apply Rv.r_din)
  | (with_reducible apply Rv.r_dnotin)
  | (with_reducible apply Rv.r_dget2)
  | (with_reducible apply Rv.r_sl)
  | (with_reducible apply Rv.r_nopart)
  | (with_reducible apply Rv.r_part)
  | (with_reducible apply Rv.r_for)
  | (with_reducible apply Rv.r_lc)
  | (with_reducible apply Rv.r_yes)
  | (with_reducible apply Rv.r_iList)
  | (with_reducible apply Rv.r_iRng1)
  | (with_reducible apply Rv.r_iRng2)
  | (with_reducible apply Rv.r_iZip)
  | (with_reducible apply Rv.r_iStr)
  | (with_reducible apply Rv.r_iKeys)
  | (with_reducible apply Rv.r_lstRg)
  | ((with_reducible apply Rv.k_itl); (focus lcg_sub))
  | ((with_reducible apply Rv.k_zip); (focus lcg_sub); (focus lcg_sub))
  | ((with_reducible apply Rv.k_rng1); (focus omega))
  | ((with_reducible apply Rv.k_rng2); (focus omega))
  | (with_reducible apply Rv.k_its)
  | (with_reducible apply Rv.r_retN)
  | (with_reducible apply Rv.r_next)
  | (with_reducible apply Rv.r_setF)
  | (with_reducible apply Rv.r_dput)
  | (with_reducible apply Rv.r_setI)
  | (with_reducible apply Rv.r_raise)
  | (with_reducible apply Rv.r_wF)
  | (with_reducible apply Rv.k_ifTT)
  | (with_reducible apply Rv.k_ifFF)
  | (with_reducible apply Rv.k_ifNT)
  | (with_reducible apply Rv.k_ifNF)
  | (with_reducible apply Rv.k_andNT)
  | (with_reducible apply Rv.k_andNF)
  | (with_reducible apply Rv.k_orNT)
  | (with_reducible apply Rv.k_orNF)
  | (with_reducible apply Rv.k_andVNT)
  | (with_reducible apply Rv.k_andVNF)
  | (with_reducible apply Rv.k_orVNT)
  | (with_reducible apply Rv.k_orVNF)
  | (with_reducible apply Rv.k_isB_ii)
  | (with_reducible apply Rv.k_isB_ib)
  | (with_reducible apply Rv.k_isB_bi)
  | (with_reducible apply Rv.k_isB_bb)
  | (with_reducible apply Rv.k_isB_ni)
  | (with_reducible apply Rv.k_isB_ss)
  | ((with_reducible apply Rv.k_isB_ll); (focus lcg_sub))
  | ((with_reducible apply Rv.k_isB_tt); (focus lcg_sub))
  | (with_reducible apply Rv.r_mk)
  | (with_reducible apply Rv.r_rg1)
  | (with_reducible apply Rv.k_rg1)
  | (with_reducible apply Rv.r_dpop1)
  | (with_reducible apply Rv.k_ifNNT)
  | (with_reducible apply Rv.k_ifNNF)
  | (with_reducible apply Rv.r_dropE)
  | (with_reducible apply Rv.r_dropR)
  | (with_reducible apply Rv.r_dropN)
  | (with_reducible apply Rv.r_dropM))
namespace Rv
open PySem L2
/-! ### the laws' years and flows -/
def yearF (ns : List Int) (st : Int) (k : Nat) : Int := if cell ns (st + (k : Int)) % 5 = 4 then cell ns (st + (k : Int)) / 5 % 1000001 else cell ns (st + (k : Int)) / 5 % 60
theorem yearF_ok (ns : List Int) (st : Int) (k : Nat) : 0 ≤ yearF ns st k ∧ yearF ns st k ≤ 1000000 := by
  unfold yearF
  by_cases h : cell ns (st + (k : Int)) % 5 = 4
  · rw [if_pos h]
    omega
  · rw [if_neg h]
    omega
theorem year_fI {B : List Nat} {n : Nat} {f : Nat → Int} (hn : n = B.length + 1) (h : ∀ k, 0 ≤ f k ∧ f k ≤ 1000000) : Year B (fI n f) := ⟨by rw [fI_len]; exact hn, fun y hy => by
  obtain ⟨k, _, rfl⟩ := List.mem_map.mp hy
  exact h k⟩
def sp_l_year (c : Cs) : Sp := fun vs H Q E => ∃ (a : Addr) (ns : List Int) (st : Int) (n : Nat), vs = [.ref a, .int st, .int (n : Int)] ∧ SqL c.K H a (ns.map V.int) ∧ 0 ≤ st ∧ n ≤ 1000 ∧
  ∀ p H', H p = none → Ext H H' → H' p = some (.lst (fV n (yearF ns st))) → Q (.ref p) H'
def sp_l_flows (c : Cs) : Sp := fun vs H Q E => ∃ b y t B Y T, vs = [.ref b, .ref y, .ref t] ∧ SqL c.K H b (belV B) ∧ Riv B ∧ SqL c.K H y (Y.map V.int) ∧ SqL c.K H t (T.map V.int) ∧ Y.length = B.length + 1 ∧ T.length = B.length + 1 ∧
  ∀ a H', H a = none → Ext H H' → H' a = some (.lst (fV (B.length + 1) (flowM B (netM Y T)))) → Q (.ref a) H'
-- l_year: 0 script 1 start 2 size 3 year 4 k 5 cell 6 inflow
def t_l_year (c : Cs) (E : XK) : TS :=
  (tSeq (tAsg (tLst tNil) (gName 3))
  (tSeq (tFor (iRng1 (tCons (tVar 2) tNil)) (gName 4)
  (tSeq (tAsg (tFn (sp_l_cell_at c) (wF E) (tCons (tVar 0) (tCons (tOp rAddI (tVar 1) (tVar 4)) tNil))) (gName 5))
  (tSeq (tAsg (tOp rModI (tOp rDivI (tVar 5) (tC (.int 5))) (tC (.int 60))) (gName 6))
  (tSeq (tIfS (tTest (tOp rEq (tOp rModI (tVar 5) (tC (.int 5))) (tC (.int 4)))) (tAsg (tOp rModI (tOp rDivI (tVar 5) (tC (.int 5))) (tC (.int 1000001))) (gName 6)) tNext)
  (tDrop (tBM c.K "list" rAppend (tVar 3) (tCons (tVar 6) tNil)))))))
  (tRet (tVar 3))))
-- l_flows: 0 below 1 year 2 taken 3 found 4 inflow 5 point 6 other
def t_l_flows (c : Cs) (E : XK) : TS :=
  (tSeq (tAsg (tLc (iList c.K (tVar 1)) (gName 4) tYes (tC (.int 0)) [4]) (gName 3))
  (tSeq (tFor (iRng1 (tCons (tCB (rLenS c.K) (tCons (tVar 1) tNil)) tNil)) (gName 5)
  (tFor (iList c.K (tFn (sp_l_way c) (wF E) (tCons (tVar 0) (tCons (tVar 5) tNil)))) (gName 6)
  (tAsg (tOp rSubI (tOp rAddI (tOp (rIxL c.K) (tVar 3) (tVar 6)) (tOp (rIxL c.K) (tVar 1) (tVar 5))) (tOp (rIxL c.K) (tVar 2) (tVar 5))) (gSub (tVar 3) (tVar 6) rSetL))))
  (tRet (tVar 3))))
section
variable {c : Cs}
theorem pure_l_year (vs : List V) (H : Hp) (Q : VK) (E : XK) (h : sp_l_year c vs H Q E) : t_l_year c E { nx := fun _ H' => Q .non H', rt := Q } (start ["script", "start", "size", "year", "k", "cell", "inflow"] vs) H := by
  obtain ⟨a, ns, st, n, rfl, hs, h0, hn, k⟩ := h
  unfold t_l_year
  repeat lcg_off
  intro p H1 hp e1 h1
  repeat lcg_off
  rw [Int.toNat_natCast]
  refine k_forR (fun i σ H' => (∃ v1 v2 v3, σ = [some (.ref a), some (.int st), some (.int n), some (.ref p), v1, v2, v3]) ∧ But [p] H1 H' ∧ H' p = some (.lst (fV i (yearF ns st)))) ⟨⟨_, _, _, rfl⟩, (Ext.refl _).but, h1⟩ ?_ ?_
  · rintro i σ H2 hi ⟨⟨v1, v2, v3, rfl⟩, b2, h2⟩
    rw [Int.zero_add]
    show tSeq _ _ _ [some (.ref a), some (.int st), some (.int n), some (.ref p), some (.int (i : Int)), v2, v3] _
    have ac2 : Ac H H2 := e1.ac.but b2 (by lcg_sub)
    have app : ∀ v, v = V.int (yearF ns st i) → ∀ QQ : VK, (∀ H3, But [p] H1 H3 → H3 p = some (.lst (fV (i + 1) (yearF ns st))) → QQ .non H3) → rAppend (.ref p) [v] H2 QQ := fun v e QQ q => by
      subst e
      refine k_append h2 (sz_lt (by rw [fV_len]; omega)) fun H3 b3 h3 => q H3 (b2.trans b3) ?_
      rw [h3]
      unfold fV
      rw [List.range_succ, List.map_append]
      rfl
    repeat lcg_off
    refine ⟨a, ns, _, rfl, by lcg_sub, by omega, ?_⟩
    repeat lcg_off
    refine k_ifD (fun h5 => ?_) (fun h5 => ?_)
    · repeat lcg_off
      refine app _ ?_ _ fun H3 b3 h3 => ?_
      · unfold yearF
        rw [if_pos h5]
      exact ⟨⟨_, _, _, rfl⟩, b3, h3⟩
    · repeat lcg_off
      refine app _ ?_ _ fun H3 b3 h3 => ?_
      · unfold yearF
        rw [if_neg h5]
      exact ⟨⟨_, _, _, rfl⟩, b3, h3⟩
  · rintro σ H2 ⟨⟨v1, v2, v3, rfl⟩, b2, h2⟩
    repeat lcg_off
    exact k p H2 hp (e1.ac.but b2 (by lcg_sub)).ext h2
theorem pure_l_flows (vs : List V) (H : Hp) (Q : VK) (E : XK) (h : sp_l_flows c vs H Q E) : t_l_flows c E { nx := fun _ H' => Q .non H', rt := Q } (start ["below", "year", "taken", "found", "inflow", "point", "other"] vs) H := by
  obtain ⟨b, y, t, B, Y, T, rfl, hb, hB, hy, ht, hYl, hTl, k⟩ := h
  have hf := hB.few
  unfold t_l_flows
  repeat lcg_off
  refine k_lcL Y V.int (fun _ => true) (fun _ => .int 0) hy (fun x => rfl) (by omega) (fun x hx H1 ac QB q => by (repeat lcg_off); exact q H1 (Ext.refl _)) (fun x hx _ H1 ac Q1 q => by (repeat lcg_off); exact q H1 (Ext.refl _)) (fun D H1 hD e1 h1 => ?_)
  have h1' : H1 D = some (.lst (fV (B.length + 1) fun q => sumR 0 fun p => if q ∈ wayM B p then netM Y T p else 0)) := by
    rw [h1, filter_yes]
    refine congrArg (fun z => some (HO.lst z)) (List.ext_getElem? fun i => ?_)
    rw [List.getElem?_map]
    by_cases hi : i < B.length + 1
    · rw [fV_get hi, List.getElem?_eq_getElem (by omega)]
      rfl
    · rw [List.getElem?_eq_none (by omega), List.getElem?_eq_none (by rw [fV_len]; omega)]
      rfl
  repeat lcg_off
  rw [List.length_map, hYl]
  repeat lcg_off
  rw [Int.toNat_natCast]
  refine k_forR (fun i σ H' => (∃ v1 v2 v3, σ = [some (.ref b), some (.ref y), some (.ref t), some (.ref D), v1, v2, v3]) ∧ But [D] H1 H' ∧ H' D = some (.lst (fV (B.length + 1) fun q => sumR i fun p => if q ∈ wayM B p then netM Y T p else 0))) ⟨⟨_, _, _, rfl⟩, (Ext.refl _).but, h1'⟩ ?_ ?_
  · rintro i σ H2 hi ⟨⟨v1, v2, v3, rfl⟩, b2, h2⟩
    rw [Int.zero_add]
    show tFor _ _ _ _ [some (.ref b), some (.ref y), some (.ref t), some (.ref D), v1, some (.int (i : Int)), v3] _
    have ac2 : Ac H H2 := e1.ac.but b2 (by lcg_sub)
    repeat lcg_off
    refine ⟨b, B, i, rfl, by lcg_sub, hB, by omega, ?_⟩
    intro w H3 hw e3 h3
    repeat lcg_off
    refine k_forL (fun j σ H' => (∃ v1 v3, σ = [some (.ref b), some (.ref y), some (.ref t), some (.ref D), v1, some (.int (i : Int)), v3]) ∧ But [D] H3 H' ∧ H' D = some (.lst (fV (B.length + 1) fun q => (sumR i fun p => if q ∈ wayM B p then netM Y T p else 0) + if q ∈ (wayM B i).take j then netM Y T i else 0))) ⟨⟨_, _, rfl⟩, (Ext.refl _).but, ?_⟩ (fun j σ H' _ p => SqL.of (p.2.1.g _ _ h3 (nin_cons (ne_fn hw h2) nin_nil))) ?_ ?_
    · rw [e3.g _ _ h2]
      exact congrArg (fun z => some (HO.lst z)) (fV_congr fun q _ => by simp)
    · rintro j x σ H4 hx ⟨⟨v1, v3, rfl⟩, b4, h4⟩
      have hj : j < (wayM B i).length := by
        by_cases z : j < (wayM B i).length
        · exact z
        · rw [List.getElem?_eq_none (by rw [List.length_map]; omega)] at hx
          cases hx
      obtain ⟨q, hq⟩ : ∃ q, (wayM B i)[j]? = some q := ⟨_, List.getElem?_eq_getElem hj⟩
      rw [List.getElem?_map, hq] at hx
      cases hx
      have hqi : q ≤ i := wayM_le _ _ (List.mem_of_getElem? hq)
      have nD : ∀ z, H z ≠ none → z ∉ [D] := fun z hz => nin_cons (fun e => hz (by rw [e]; exact hD)) nin_nil
      have ac4 : Ac H H4 := (ac2.step e3).but b4 (by lcg_sub)
      show tAsg _ _ _ [some (.ref b), some (.ref y), some (.ref t), some (.ref D), v1, some (.int (i : Int)), some (nV q)] _
      repeat lcg_off
      refine k_ixL (by lcg_sub) (fV_at (by omega)) ?_
      repeat lcg_off
      refine k_ixL (by lcg_sub) (atI_nat (map_at (by omega))) ?_
      repeat lcg_off
      refine k_ixL (by lcg_sub) (atI_nat (map_at (by omega))) ?_
      repeat lcg_off
      refine k_setI (k := q) (by lcg_sub) (ixN_at (by rw [fV_len]; omega)) fun H5 b5 h5 => ?_
      repeat lcg_off
      refine ⟨⟨_, _, rfl⟩, b4.trans b5, ?_⟩
      rw [h5, fV_set]
      refine congrArg (fun z => some (HO.lst z)) (fV_congr fun p hp => ?_)
      have et : (wayM B i).take (j + 1) = (wayM B i).take j ++ [q] := by
        rw [List.take_succ_eq_append_getElem hj]
        rw [List.getElem?_eq_getElem hj] at hq
        rw [Option.some.inj hq]
      have hnd := wayM_nodup B i
      rw [← List.take_append_drop (j + 1) (wayM B i), et, List.append_assoc] at hnd
      have hnq : q ∉ (wayM B i).take j := fun z => (List.nodup_append.mp hnd).2.2 q z q (List.mem_append_left _ List.mem_cons_self) rfl
      rw [et]
      by_cases e : p = q
      · subst e
        rw [if_pos rfl, if_neg hnq, if_pos (List.mem_append_right _ List.mem_cons_self)]
        unfold netM
        omega
      · rw [if_neg e]
        have hm : p ∈ (wayM B i).take j ++ [q] ↔ p ∈ (wayM B i).take j := by
          rw [List.mem_append]
          exact ⟨fun z => z.elim id fun z => absurd (by simpa using z) e, .inl⟩
        simp only [hm]
    · rintro σ H4 ⟨⟨v1, v3, rfl⟩, b4, h4⟩
      refine ⟨⟨_, _, _, rfl⟩, (b2.step e3).trans b4, ?_⟩
      rw [h4]
      refine congrArg (fun z => some (HO.lst z)) (fV_congr fun p hp => ?_)
      rw [List.length_map, List.take_length]
      rfl
  · rintro σ H2 ⟨⟨v1, v2, v3, rfl⟩, b2, h2⟩
    repeat lcg_off
    exact k D H2 hD (e1.ac.but b2 (by lcg_sub)).ext h2
end
end Rv

end
section
namespace Rv
open PySem L2
def RwV : Hp → V → Rw → Prop := fun H v w => ∃ t, v = .ref t ∧ H t = some (.tup [nV w.p, .int w.a, .int w.d])
theorem RwV_mono : MonoV RwV := fun H H' v w e ⟨t, h1, h2⟩ => ⟨t, h1, e.g _ _ h2⟩
/-- a book: the river, the rights as they were put -/
structure BokAt (c : Cs) (H : Hp) (b r l : Addr) (B : List Nat) (d : Addr) (R : List Rw) : Prop where
  ob : ∃ dx, H b = some (.ins c.book dx [("stream", .ref r), ("rows", .ref d)])
  riv : RivAt c H r l B
  dic : DicAt Rw.n RwV H d R
  nd : (R.map Rw.n).Nodup
  pts : ∀ w ∈ R, w.p ≤ B.length
  few : R.length ≤ 1000
structure BookT (c : Cs) : Prop where
  cl : Cls c.K c.book
  nS : NoAttr c.K c.book "stream"
  nR : NoAttr c.K c.book "rows"
section
variable {c : Cs} {H H' : Hp} {b r l d : Addr} {B : List Nat} {R : List Rw}
theorem BokAt.ext (h : BokAt c H b r l B d R) (e : Ext H H') : BokAt c H' b r l B d R := ⟨let ⟨dx, q⟩ := h.ob; ⟨dx, e.g _ _ q⟩, h.riv.ext e, h.dic.ext RwV_mono e, h.nd, h.pts, h.few⟩
theorem BokAt.but {S : List Addr} (h : BokAt c H b r l B d R) (e : But S H H') (t : TupE H H') (n1 : b ∉ S) (n2 : r ∉ S) (n3 : l ∉ S) (n4 : d ∉ S) : BokAt c H' b r l B d R :=
  ⟨let ⟨dx, q⟩ := h.ob; ⟨dx, e.g _ _ q n1⟩, h.riv.but e n2 n3, h.dic.to RwV_mono t fun o q => e.g _ _ q n4, h.nd, h.pts, h.few⟩
/-- the rights changed -/
theorem BokAt.put {R' : List Rw} (h : BokAt c H b r l B d R) (e : But [d] H H') (D : DicAt Rw.n RwV H' d R') (nd : (R'.map Rw.n).Nodup) (pts : ∀ w ∈ R', w.p ≤ B.length) (few : R'.length ≤ 1000) : BokAt c H' b r l B d R' := by
  obtain ⟨dx, hb⟩ := h.ob
  obtain ⟨dx2, hr⟩ := h.riv.ob
  have n1 : b ∉ [d] := nin_cons (h.dic.ne hb fun _ z => by cases z) nin_nil
  have n2 : r ∉ [d] := nin_cons (h.dic.ne hr fun _ z => by cases z) nin_nil
  have n3 : l ∉ [d] := nin_cons (h.dic.ne h.riv.li fun _ z => by cases z) nin_nil
  exact ⟨⟨dx, e.g _ _ hb n1⟩, h.riv.but e n2 n3, D, nd, pts, few⟩
end
/-- another book's rights changed -/
theorem BokAt.off {c : Cs} {H H' : Hp} {b r l d b' r' l' d' : Addr} {B B' : List Nat} {R R' : List Rw} (h : BokAt c H b r l B d R) (h2 : BokAt c H b' r' l' B' d' R') (n : d ≠ d') (e : But [d'] H H') (t : TupE H H') : BokAt c H' b r l B d R := by
  obtain ⟨dx, hb⟩ := h.ob
  obtain ⟨dx2, hr⟩ := h.riv.ob
  exact h.but e t (nin_cons (h2.dic.ne hb fun _ z => by cases z) nin_nil) (nin_cons (h2.dic.ne hr fun _ z => by cases z) nin_nil) (nin_cons (h2.dic.ne h.riv.li fun _ z => by cases z) nin_nil) (nin_cons n nin_nil)
/-- a list changed -/
theorem BokAt.lst {c : Cs} {H H' : Hp} {b r l d q : Addr} {B : List Nat} {R : List Rw} {xs : List V} (h : BokAt c H b r l B d R) (hq : H q = some (.lst xs)) (n : l ≠ q) (e : But [q] H H') : BokAt c H' b r l B d R := by
  obtain ⟨dx, hb⟩ := h.ob
  obtain ⟨dx2, hr⟩ := h.riv.ob
  exact h.but e (e.tupL hq) (nin_cons (ne_k1 hb hq (by intro z; cases z)) nin_nil) (nin_cons (ne_k1 hr hq (by intro z; cases z)) nin_nil) (nin_cons n nin_nil) (nin_cons (h.dic.ne hq fun _ z => by cases z).symm nin_nil)
def repR (R : List Rw) (w : Rw) : List Rw := R.map fun x => if x.n = w.n then w else x
theorem repR_names (R : List Rw) (w : Rw) : (repR R w).map Rw.n = R.map Rw.n := by
  unfold repR
  rw [List.map_map]
  refine List.map_congr_left fun x _ => ?_
  show (if x.n = w.n then w else x).n = x.n
  by_cases h : x.n = w.n
  · rw [if_pos h, h]
  · rw [if_neg h]
theorem repR_len (R : List Rw) (w : Rw) : (repR R w).length = R.length := by unfold repR; rw [List.length_map]
theorem repR_mem {R : List Rw} {w x : Rw} (h : x ∈ repR R w) : x = w ∨ x ∈ R := by
  obtain ⟨y, hy, e⟩ := List.mem_map.mp h
  by_cases z : y.n = w.n
  · rw [if_pos z] at e
    exact .inl e.symm
  · rw [if_neg z] at e
    exact .inr (e ▸ hy)
theorem putR_old {R : List Rw} {w : Rw} (h : w.n ∈ R.map Rw.n) : putR Rw.n R w = repR R w := if_pos h
theorem putR_new {ρ : Type} {nm : ρ → Str} {R : List ρ} {w : ρ} (h : nm w ∉ R.map nm) : putR nm R w = R ++ [w] := if_neg h
theorem snoc_nodup {ρ : Type} {nm : ρ → Str} {R : List ρ} {w : ρ} (nd : (R.map nm).Nodup) (h : nm w ∉ R.map nm) : ((R ++ [w]).map nm).Nodup := by
  rw [List.map_append, List.nodup_append]
  refine ⟨nd, by simp, fun a ha b hb e => ?_⟩
  have hb' : b = nm w := by simpa using hb
  exact h (by rw [← hb', ← e]; exact ha)
theorem dropR_nodup {ρ : Type} {nm : ρ → Str} {R : List ρ} {n : Str} (nd : (R.map nm).Nodup) : ((dropR nm R n).map nm).Nodup := nd.sublist (List.filter_sublist.map nm)
theorem dropR_mem {ρ : Type} {nm : ρ → Str} {R : List ρ} {n : Str} {w : ρ} (h : w ∈ dropR nm R n) : w ∈ R := (List.mem_filter.mp h).1
theorem dropR_len {ρ : Type} {nm : ρ → Str} {R : List ρ} {n : Str} : (dropR nm R n).length ≤ R.length := List.length_filter_le _ _
/-! ### promises -/
def sp_Book_init (c : Cs) : Sp := fun vs H Q E => ∃ x dx r l B, vs = [.ref x, .ref r] ∧ H x = some (.ins c.book dx []) ∧ RivAt c H r l B ∧
  ∀ d H', H d = none → But [x] H H' → BokAt c H' x r l B d [] → Q .non H'
def sp_Book_river (c : Cs) : Sp := fun vs H Q E => ∃ b r l B d R, vs = [.ref b] ∧ BokAt c H b r l B d R ∧ Q (.ref r) H
def sp_Book_right (c : Cs) : Sp := fun vs H Q E => ∃ b r l B d R n, vs = [.ref b, .str n] ∧ BokAt c H b r l B d R ∧
  (∀ w ∈ R, w.n = n → ∀ t, H t = some (.tup [nV w.p, .int w.a, .int w.d]) → Q (.ref t) H) ∧ (n ∉ R.map Rw.n → E (.ref c.noRight) none H)
def sp_Book_names (c : Cs) : Sp := fun vs H Q E => ∃ b r l B d R, vs = [.ref b] ∧ BokAt c H b r l B d R ∧
  ∀ p H', H p = none → Ext H H' → H' p = some (.lst ((agedR R).map fun w => .str w.n)) → Q (.ref p) H'
def sp_Book_free (c : Cs) : Sp := fun vs H Q E => ∃ b r l B d R n, vs = [.ref b, .str n] ∧ BokAt c H b r l B d R ∧ (n ∉ R.map Rw.n → Q .non H) ∧ (n ∈ R.map Rw.n → E (.ref c.taken) none H)
def sp_Book_grant (c : Cs) : Sp := fun vs H Q E => ∃ b r l B d R n z a dt, vs = [.ref b, .str n, .int z, .int a, .int dt] ∧ BokAt c H b r l B d R ∧ R.length < 1000 ∧
  (n ∈ R.map Rw.n → E (.ref c.taken) none H) ∧ (n ∉ R.map Rw.n → ¬ (0 ≤ z ∧ z ≤ B.length) → E (.ref c.noPoint) none H) ∧
  (n ∉ R.map Rw.n → ∀ p : Nat, z = p → p ≤ B.length → ∀ H', But [d] H H' → TupE H H' → BokAt c H' b r l B d (R ++ [⟨n, p, a, dt⟩]) → Q (.int ((R.length : Int) + 1)) H')
def sp_Book_drop (c : Cs) : Sp := fun vs H Q E => ∃ b r l B d R n, vs = [.ref b, .str n] ∧ BokAt c H b r l B d R ∧
  (n ∈ R.map Rw.n → ∀ H', But [d] H H' → TupE H H' → BokAt c H' b r l B d (dropR Rw.n R n) → Q (.int (dropR Rw.n R n).length) H') ∧ (n ∉ R.map Rw.n → E (.ref c.noRight) none H)
def sp_Book_part (c : Cs) : Sp := fun vs H Q E => ∃ b r l B d R n o a, vs = [.ref b, .str n, .str o, .int a] ∧ BokAt c H b r l B d R ∧ R.length < 1000 ∧
  (n ∉ R.map Rw.n → E (.ref c.noRight) none H) ∧ (n ∈ R.map Rw.n → o ∈ R.map Rw.n → E (.ref c.taken) none H) ∧
  (∀ w ∈ R, w.n = n → o ∉ R.map Rw.n → (a > w.a → E (.ref c.tooMuch) none H) ∧
    (¬ a > w.a → ∀ H', But [d] H H' → TupE H H' → BokAt c H' b r l B d (repR R ⟨n, w.p, w.a - a, w.d⟩ ++ [⟨o, w.p, a, w.d⟩]) → Q (.int ((R.length : Int) + 1)) H'))
def notUn (n o : Str) (w u : Rw) : Prop := n = o ∨ w.p ≠ u.p ∨ w.d ≠ u.d ∨ w.a + u.a > 1000000
def sp_Book_unite (c : Cs) : Sp := fun vs H Q E => ∃ b r l B d R n o, vs = [.ref b, .str n, .str o] ∧ BokAt c H b r l B d R ∧
  (n ∉ R.map Rw.n ∨ o ∉ R.map Rw.n → E (.ref c.noRight) none H) ∧
  (∀ w ∈ R, w.n = n → ∀ u ∈ R, u.n = o → (notUn n o w u → E (.ref c.unlike) none H) ∧
    (¬ notUn n o w u → ∀ H', But [d] H H' → TupE H H' → BokAt c H' b r l B d (dropR Rw.n (repR R ⟨n, w.p, w.a + u.a, w.d⟩) o) → Q (.int (dropR Rw.n (repR R ⟨n, w.p, w.a + u.a, w.d⟩) o).length) H'))
def sp_Book_shift (c : Cs) : Sp := fun vs H Q E => ∃ b r l B d R n, ∃ p : Nat, vs = [.ref b, .str n, nV p] ∧ BokAt c H b r l B d R ∧ p ≤ B.length ∧ (n ∉ R.map Rw.n → E (.ref c.noRight) none H) ∧
  (∀ w ∈ R, w.n = n → ∀ H', But [d] H H' → TupE H H' → BokAt c H' b r l B d (repR R ⟨n, p, w.a, w.d⟩) → Q (nV w.p) H')
section
variable {K : PySem.W.Frag} {σ : L2.St} {H : Hp} {Q : VK} {tt : TT} {te : TE} {vs : List Nat}
/-- [e for name in d] -/
theorem k_lcK {β : Type} {d : Addr} {o : Obj} {kvs : List (Key × V)} {j : Nat} (hd : H d = some (.frz o (.dK kvs))) (G : Nat → β) (Rr : Hp → V → β → Prop) (mono : ∀ H1 H2 v b, TupE H1 H2 → Rr H1 v b → Rr H2 v b) (hw : ∀ x, wipe ((wipe σ vs).set j (some x)) vs = wipe σ vs) (hlen : kvs.length ≤ 100000)
    (elt : ∀ i k v, kvs[i]? = some (k, v) → ∀ H1, Ac H H1 → ∀ Q1 : VK, (∀ v H2, Ext H1 H2 → Rr H2 v (G i) → Q1 v H2) → te ((wipe σ vs).set j (some (kV k))) H1 Q1)
    (fin : ∀ D ws H', H D = none → Ext H H' → H' D = some (.lst ws) → Paired (Rr H') ws ((List.range kvs.length).map G) → Q (.ref D) H') : kLc (gName j) tYes te vs σ Q (Itk d o kvs) H := by
  refine lc_genG walk_keys (fun _ => true) G Rr (fun H' e => e.g _ _ hd) mono hlen (fun i x H1 H2 hi ac y => ?_) (fun D ws H' hD e hws pr => fin D ws H' hD e hws ?_)
  · obtain ⟨e, k, v, hk, y⟩ := y
    subst e
    subst y
    exact ⟨_, _, Ext.refl _, hw _, fun N q => q, fun QB q => q _ (Ext.refl _), fun _ H4 e4 Q1 q => elt i k v hk H4 (ac.step e4) Q1 q⟩
  · have : (List.range kvs.length).filter (fun _ => true) = List.range kvs.length := List.filter_eq_self.mpr fun _ _ => rfl
    rw [this] at pr
    exact pr
end
theorem range_map {α β : Type} [Inhabited α] (l : List α) (f : α → β) : (List.range l.length).map (fun i => f (l.getD i default)) = l.map f := by
  refine List.ext_getElem? fun i => ?_
  by_cases h : i < l.length
  · rw [List.getElem?_map, List.getElem?_range h, List.getElem?_map, List.getElem?_eq_getElem h]
    show some (f (l.getD i default)) = some (f l[i])
    rw [List.getD_eq_getElem?_getD, List.getElem?_eq_getElem h]
    rfl
  · rw [List.getElem?_eq_none (by rw [List.length_map, List.length_range]; omega), List.getElem?_eq_none (by rw [List.length_map]; omega)]
theorem PK.at {ρ : Type} [Inhabited ρ] {nm : ρ → Str} {Val : V → ρ → Prop} : ∀ {kvs : List (Key × V)} {R : List ρ}, PK nm Val kvs R → ∀ i k v, kvs[i]? = some (k, v) → k = .inr (nm (R.getD i default)) ∧ R.getD i default ∈ R ∧ Val v (R.getD i default)
  | _, _, .nil, i, k, v, h => by simp at h
  | _, _, .cons r t, 0, k, v, h => by
    cases h
    exact ⟨r.1, List.mem_cons_self, r.2⟩
  | _, _, .cons r t, i + 1, k, v, h => by
    have := PK.at t i k v h
    exact ⟨this.1, List.mem_cons_of_mem _ this.2.1, this.2.2⟩
end Rv
local macro_rules | `(tactic| lcg_src) => `(tactic| first
  | assumption
  | (with_reducible exact Rv.lk_here)
  | (refine (Rv.lk_past (by decide +kernel)).trans ?_; lcg_src)
  | (with_unfolding_all exact rfl))
local macro_rules | `(tactic| keq_hits) => `(tactic| first
  | assumption
  | ((with_reducible apply Rv.Ext.hl); (focus assumption); (focus keq_hits))
  | ((with_reducible apply Rv.But.hl); (focus assumption); (focus keq_hits); (focus keq_hits))
  | ((with_reducible apply Rv.Ac.hl); (focus assumption); (focus keq_hits))
  | ((with_reducible apply L2.SqL.of); (focus assumption))
  | ((with_reducible apply Rv.Ext.sq); (focus assumption); (focus keq_hits))
  | ((with_reducible apply Rv.But.sq); (focus assumption); (focus keq_hits); (focus keq_hits))
  | ((with_reducible apply Rv.Ac.sq); (focus assumption); (focus keq_hits))
  | ((with_reducible apply L2.SqT.of); (focus assumption))
  | ((with_reducible apply Rv.Ext.st); (focus assumption); (focus keq_hits))
  | ((with_reducible apply Rv.But.st); (focus assumption); (focus keq_hits); (focus keq_hits))
  | ((with_reducible apply Rv.Ac.st); (focus assumption); (focus keq_hits))
  | ((with_reducible apply L2.Rd.of); (focus keq_hits))
  | ((with_reducible apply Rv.RivAt.ext); (focus assumption); (focus keq_hits))
  | ((with_reducible apply Rv.RivAt.but); (focus assumption); (focus keq_hits); (focus keq_hits); (focus keq_hits))
  | ((with_reducible apply Rv.RivAt.ac); (focus assumption); (focus keq_hits))
  | (with_reducible apply Rv.nin_nil)
  | ((with_reducible apply Rv.BokAt.ext); (focus assumption); (focus keq_hits))
  | ((with_reducible apply Rv.DicAt.ne); (focus assumption); (focus assumption); (focus (intro _ z; cases z)))
  | ((with_reducible apply Rv.DicAt.nf); (focus assumption); (focus assumption))
  | ((with_reducible apply Rv.Ext.tup); (focus assumption))
  | ((with_reducible apply Rv.Ac.tup); (focus assumption))
  | ((with_reducible apply Rv.nin_cons); (focus keq_hits); (focus keq_hits))
  | (with_reducible apply Rv.frs_nil)
  | ((with_reducible apply Rv.frs_cons); (focus keq_hits); (focus keq_hits))
  | ((with_reducible apply Ne.symm); (focus assumption))
  | ((with_reducible apply Rv.ne_nf); (focus assumption); (focus assumption))
  | ((with_reducible apply Rv.ne_fn); (focus assumption); (focus assumption))
  | ((with_reducible apply Rv.ne_k1); (focus assumption); (focus assumption); (focus (first | (intro z; cases z; done) | ((with_reducible apply Rv.ins_ne); intro z; cases z; done))))
  | ((with_reducible apply Rv.ne_k2); (focus assumption); (focus assumption); (focus (first | (intro z; cases z; done) | ((with_reducible apply Rv.ins_ne); intro z; cases z; done))))
  | ((with_reducible apply Rv.free2); (focus assumption); (focus assumption))
  | (with_reducible apply Rv.Ac.refl)
  | ((with_reducible apply Rv.Ac.step'); (focus assumption); (focus keq_hits))
  | ((with_reducible apply Rv.Ac.but'); (focus assumption); (focus keq_hits); (focus keq_hits))
  | (with_reducible apply Rv.Ext.refl)
  | ((with_reducible apply Rv.Ac.ext); (focus keq_hits))
  | ((with_reducible apply Rv.sz_le); first | omega | (simp only [List.length_cons, List.length_nil, List.length_map, List.length_append]; omega))
  | ((with_reducible apply Rv.sz_lt); first | omega | (simp only [List.length_cons, List.length_nil, List.length_map, List.length_append]; omega)))
local macro_rules | `(tactic| kln_le) => `(tactic| first
  | assumption
  | ((with_reducible apply Rv.Ext.hl); (focus assumption); (focus kln_le))
  | ((with_reducible apply Rv.But.hl); (focus assumption); (focus kln_le); (focus kln_le))
  | ((with_reducible apply Rv.Ac.hl); (focus assumption); (focus kln_le))
  | ((with_reducible apply L2.SqL.of); (focus assumption))
  | ((with_reducible apply Rv.Ext.sq); (focus assumption); (focus kln_le))
  | ((with_reducible apply Rv.But.sq); (focus assumption); (focus kln_le); (focus kln_le))
  | ((with_reducible apply Rv.Ac.sq); (focus assumption); (focus kln_le))
  | ((with_reducible apply L2.SqT.of); (focus assumption))
  | ((with_reducible apply Rv.Ext.st); (focus assumption); (focus kln_le))
  | ((with_reducible apply Rv.But.st); (focus assumption); (focus kln_le); (focus kln_le))
  | ((with_reducible apply Rv.Ac.st); (focus assumption); (focus kln_le))
  | ((with_reducible apply L2.Rd.of); (focus kln_le))
  | ((with_reducible apply Rv.RivAt.ext); (focus assumption); (focus kln_le))
  | ((with_reducible apply Rv.RivAt.but); (focus assumption); (focus kln_le); (focus kln_le); (focus kln_le))
  | ((with_reducible apply Rv.RivAt.ac); (focus assumption); (focus kln_le))
  | (with_reducible apply Rv.nin_nil)
  | ((with_reducible apply Rv.BokAt.ext); (focus assumption); (focus kln_le))
  | ((with_reducible apply Rv.DicAt.ne); (focus assumption); (focus keq_hits); (focus (intro _ z; cases z)))
  | ((with_reducible apply Rv.DicAt.nf); (focus assumption); (focus keq_hits))
  | ((with_reducible apply Rv.Ext.tup); (focus assumption))
  | ((with_reducible apply Rv.Ac.tup); (focus assumption))
  | ((with_reducible apply Rv.nin_cons); (focus kln_le); (focus kln_le))
  | (with_reducible apply Rv.frs_nil)
  | ((with_reducible apply Rv.frs_cons); (focus kln_le); (focus kln_le))
  | ((with_reducible apply Ne.symm); (focus assumption))
  | ((with_reducible apply Rv.ne_nf); (focus assumption); (focus keq_hits))
  | ((with_reducible apply Rv.ne_fn); (focus assumption); (focus keq_hits))
  | ((with_reducible apply Rv.ne_k1); (focus assumption); (focus keq_hits); (focus (first | (intro z; cases z; done) | ((with_reducible apply Rv.ins_ne); intro z; cases z; done))))
  | ((with_reducible apply Rv.ne_k2); (focus assumption); (focus keq_hits); (focus (first | (intro z; cases z; done) | ((with_reducible apply Rv.ins_ne); intro z; cases z; done))))
  | ((with_reducible apply Rv.free2); (focus assumption); (focus keq_hits))
  | (with_reducible apply Rv.Ac.refl)
  | ((with_reducible apply Rv.Ac.step'); (focus assumption); (focus kln_le))
  | ((with_reducible apply Rv.Ac.but'); (focus assumption); (focus kln_le); (focus kln_le))
  | (with_reducible apply Rv.Ext.refl)
  | ((with_reducible apply Rv.Ac.ext); (focus kln_le))
  | ((with_reducible apply Rv.sz_le); first | omega | (simp only [List.length_cons, List.length_nil, List.length_map, List.length_append]; omega))
  | ((with_reducible apply Rv.sz_lt); first | omega | (simp only [List.length_cons, List.length_nil, List.length_map, List.length_append]; omega)))
local macro_rules | `(tactic| lcg_sub) => `(tactic| first
  | assumption
  | ((with_reducible apply Rv.Ext.hl); (focus assumption); (focus lcg_sub))
  | ((with_reducible apply Rv.But.hl); (focus assumption); (focus lcg_sub); (focus lcg_sub))
  | ((with_reducible apply Rv.Ac.hl); (focus assumption); (focus lcg_sub))
  | ((with_reducible apply L2.SqL.of); (focus assumption))
  | ((with_reducible apply Rv.Ext.sq); (focus assumption); (focus lcg_sub))
  | ((with_reducible apply Rv.But.sq); (focus assumption); (focus lcg_sub); (focus lcg_sub))
  | ((with_reducible apply Rv.Ac.sq); (focus assumption); (focus lcg_sub))
  | ((with_reducible apply L2.SqT.of); (focus assumption))
  | ((with_reducible apply Rv.Ext.st); (focus assumption); (focus lcg_sub))
  | ((with_reducible apply Rv.But.st); (focus assumption); (focus lcg_sub); (focus lcg_sub))
  | ((with_reducible apply Rv.Ac.st); (focus assumption); (focus lcg_sub))
  | ((with_reducible apply L2.Rd.of); (focus lcg_sub))
  | ((with_reducible apply Rv.RivAt.ext); (focus assumption); (focus lcg_sub))
  | ((with_reducible apply Rv.RivAt.but); (focus assumption); (focus lcg_sub); (focus lcg_sub); (focus lcg_sub))
  | ((with_reducible apply Rv.RivAt.ac); (focus assumption); (focus lcg_sub))
  | (with_reducible apply Rv.nin_nil)
  | ((with_reducible apply Rv.BokAt.ext); (focus assumption); (focus lcg_sub))
  | ((with_reducible apply Rv.DicAt.ne); (focus assumption); (focus kln_le); (focus (intro _ z; cases z)))
  | ((with_reducible apply Rv.DicAt.nf); (focus assumption); (focus kln_le))
  | ((with_reducible apply Rv.Ext.tup); (focus assumption))
  | ((with_reducible apply Rv.Ac.tup); (focus assumption))
  | ((with_reducible apply Rv.nin_cons); (focus lcg_sub); (focus lcg_sub))
  | (with_reducible apply Rv.frs_nil)
  | ((with_reducible apply Rv.frs_cons); (focus lcg_sub); (focus lcg_sub))
  | ((with_reducible apply Ne.symm); (focus assumption))
  | ((with_reducible apply Rv.ne_nf); (focus assumption); (focus kln_le))
  | ((with_reducible apply Rv.ne_fn); (focus assumption); (focus kln_le))
  | ((with_reducible apply Rv.ne_k1); (focus assumption); (focus kln_le); (focus (first | (intro z; cases z; done) | ((with_reducible apply Rv.ins_ne); intro z; cases z; done))))
  | ((with_reducible apply Rv.ne_k2); (focus assumption); (focus kln_le); (focus (first | (intro z; cases z; done) | ((with_reducible apply Rv.ins_ne); intro z; cases z; done))))
  | ((with_reducible apply Rv.free2); (focus assumption); (focus kln_le))
  | (with_reducible apply Rv.Ac.refl)
  | ((with_reducible apply Rv.Ac.step'); (focus assumption); (focus lcg_sub))
  | ((with_reducible apply Rv.Ac.but'); (focus assumption); (focus lcg_sub); (focus lcg_sub))
  | (with_reducible apply Rv.Ext.refl)
  | ((with_reducible apply Rv.Ac.ext); (focus lcg_sub))
  | ((with_reducible apply Rv.sz_le); first | omega | (simp only [List.length_cons, List.length_nil, List.length_map, List.length_append]; omega))
  | ((with_reducible apply Rv.sz_lt); first | omega | (simp only [List.length_cons, List.length_nil, List.length_map, List.length_append]; omega)))
local macro_rules | `(tactic| lcg_off) => `(tactic| first
  | (with_reducible apply Rv.r_seq)
  | (with_reducible apply Rv.r_asg)
  | (with_reducible apply Rv.r_op)
  | ((with_reducible apply Rv.r_var); (focus with_unfolding_all rfl))
  | (with_reducible apply Rv.r_c)
  | (with_reducible apply Rv.r_if)
  | (with_reducible apply Rv.r_test)
  | (with_reducible apply Rv.r_fld)
  | (with_reducible apply Rv.r_cons)
  | (with_reducible apply Rv.r_nil)
  | (with_reducible apply Rv.r_ret)
  | (with_reducible apply Rv.r_drop)
  | (with_reducible apply Rv.r_meth)
  | (with_reducible apply Rv.r_fn)
  | (with_reducible apply Rv.r_CB)
  | (with_reducible apply Rv.r_BM)
  | (with_reducible apply Rv.r_BM0)
  | (with_reducible apply Rv.k_bl)
  | (with_reducible apply Rv.r_not)
  | (with_reducible apply Rv.r_and)
  | (with_reducible apply Rv.r_or)
  | (with_reducible apply Rv.k_andT)
  | (with_reducible apply Rv.k_andF)
  | (with_reducible apply Rv.k_orT)
  | (with_reducible apply Rv.k_orF)
  | (with_reducible apply Rv.r_tB)
  | (with_reducible apply Rv.r_chain)
  | (with_reducible apply Rv.r_un)
  | (with_reducible apply Rv.r_tup)
  | (with_reducible apply Rv.r_lst)
  | (with_reducible apply Rv.r_andV)
  | (with_reducible apply Rv.r_orV)
  | (with_reducible apply Rv.r_notV)
  | (with_reducible apply Rv.r_ifE)
  | (with_reducible apply Rv.k_notV)
  | (with_reducible apply Rv.k_andVT)
  | (with_reducible apply Rv.k_andVF)
  | (with_reducible apply Rv.k_orVT)
  | (with_reducible apply Rv.k_orVF)
  | (with_reducible apply Rv.k_addI)
  | (with_reducible apply Rv.k_subI)
  | ((with_reducible apply Rv.k_mulI); (focus (unfold L2.CMul; omega)))
  | ((with_reducible apply Rv.k_divI); (focus (unfold L2.CDiv; omega)))
  | ((with_reducible apply Rv.k_modI); (focus omega))
  | ((with_reducible apply Rv.k_powI); (focus (unfold L2.CPow; decide)))
  | (with_reducible apply Rv.k_negI)
  | (with_reducible apply Rv.k_ltI)
  | (with_reducible apply Rv.k_leI)
  | (with_reducible apply Rv.k_gtI)
  | (with_reducible apply Rv.k_geI)
  | (with_reducible apply Rv.k_eqI)
  | (with_reducible apply Rv.k_neI)
  | (with_reducible apply Rv.k_eqS)
  | (with_reducible apply Rv.k_neS)
  | (with_reducible apply Rv.k_isNN)
  | (with_reducible apply Rv.k_isNI)
  | (with_reducible apply Rv.k_isNR)
  | (with_reducible apply Rv.k_notNN)
  | (with_reducible apply Rv.k_notNI)
  | (with_reducible apply Rv.k_notNR)
  | ((with_reducible apply Rv.k_tyL); (focus lcg_sub))
  | ((with_reducible apply Rv.k_ixT); (focus lcg_sub); (focus with_unfolding_all rfl))
  | ((with_reducible apply Rv.k_ixL); (focus lcg_sub); (focus with_unfolding_all rfl))
  | ((with_reducible apply Rv.k_lenL); (focus lcg_sub))
  | ((with_reducible apply Rv.k_lenU); (focus lcg_sub))
  | ((with_reducible apply Rv.k_tup); (focus lcg_sub))
  | ((with_reducible apply Rv.k_lst); (focus lcg_sub))
  | ((with_reducible apply Rv.k_list); (focus lcg_sub))
  | ((with_reducible apply Rv.k_append); (focus lcg_sub); (focus lcg_sub))
  | ((with_reducible apply Rv.k_cat); (focus lcg_sub); (focus lcg_sub); (focus lcg_sub))
  | ((with_reducible apply Rv.k_clear); (focus lcg_sub))
  | (with_reducible apply Rv.k_int1)
  | (with_reducible apply Rv.k_max2)
  | (with_reducible apply Rv.k_min2)
  | (with_reducible apply Rv.k_str)
  | (with_reducible apply Rv.k_part)
  | (with_reducible apply Rv.r_M1)
  | (with_reducible apply Rv.r_dget)
  | (with_reducible apply Rv.r_din)
  | (with_reducible apply Rv.r_dnotin)
  | (with_reducible apply Rv.r_dget2)
  | (with_reducible apply Rv.r_sl)
  | (with_reducible apply Rv.r_nopart)
  | (with_reducible apply Rv.r_part)
  | (with_reducible apply Rv.r_for)
  | (with_reducible apply Rv.r_lc)
  | (with_reducible apply Rv.r_yes)
  | (with_reducible apply Rv.r_iList)
  | (with_reducible apply Rv.r_iRng1)
  | (with_reducible apply Rv.r_iRng2)
  | (with_reducible apply Rv.r_iZip)
  | (with_reducible apply Rv.r_iStr)
  | (with_reducible apply Rv.r_iKeys)
  | (with_reducible apply Rv.r_lstRg)
  | ((with_reducible apply Rv.k_itl); (focus lcg_sub))
  | ((with_reducible apply Rv.k_zip); (focus lcg_sub); (focus lcg_sub))
  | ((with_reducible apply Rv.k_rng1); (focus omega))
  | ((with_reducible apply Rv.k_rng2); (focus omega))
  | (with_reducible apply Rv.k_its)
  | (with_reducible apply Rv.r_retN)
  | (with_reducible apply Rv.r_next)
  | (with_reducible apply Rv.r_setF)
  | (with_reducible apply Rv.r_dput)
  | (with_reducible apply Rv.r_setI)
  | (with_reducible apply Rv.r_raise)
  | (with_reducible apply Rv.r_wF)
  | (with_reducible apply Rv.k_ifTT)
  | (with_reducible apply Rv.k_ifFF)
  | (with_reducible apply Rv.k_ifNT)
  | (with_reducible apply Rv.k_ifNF)
  | (with_reducible apply Rv.k_andNT)
  | (with_reducible apply Rv.k_andNF)
  | (with_reducible apply Rv.k_orNT)
  | (with_reducible apply Rv.k_orNF)
  | (with_reducible apply Rv.k_andVNT)
  | (with_reducible apply Rv.k_andVNF)
  | (with_reducible apply Rv.k_orVNT)
  | (with_reducible apply Rv.k_orVNF)
  | (with_reducible apply Rv.k_isB_ii)
  | (with_reducible apply Rv.k_isB_ib)
  | (with_reducible apply Rv.k_isB_bi)
  | (with_reducible apply Rv.k_isB_bb)
  | (with_reducible apply Rv.k_isB_ni)
  | (with_reducible apply Rv.k_isB_ss)
  | ((with_reducible apply Rv.k_isB_ll); (focus lcg_sub))
  | ((with_reducible apply Rv.k_isB_tt); (focus lcg_sub))
  | (with_reducible apply Rv.r_mk)
  | (with_reducible apply Rv.r_rg1)
  | (with_reducible apply Rv.k_rg1)
  | (with_reducible apply Rv.r_dpop1)
  | (with_reducible apply Rv.k_ifNNT)
  | (with_reducible apply Rv.k_ifNNF)
  | (with_reducible apply Rv.r_dropE)
  | (with_reducible apply Rv.r_dropR)
  | (with_reducible apply Rv.r_dropN)
  | (with_reducible apply Rv.r_dropM))
namespace Rv
open PySem L2
-- Book_init: 0 self 1 river
def t_Book_init (c : Cs) (E : XK) : TS :=
  (tSeq (sFld c.K (tVar 0) (tVar 1) "stream")
  (sFld c.K (tVar 0) tDNewK "rows"))
-- Book_river: 0 self
def t_Book_river (c : Cs) (E : XK) : TS :=
  (tRet (tFld c.K (tVar 0) "stream"))
-- Book_right: 0 self 1 name
def t_Book_right (c : Cs) (E : XK) : TS :=
  (tSeq (tIfS (tB (tDNotIn (tVar 1) (tFld c.K (tVar 0) "rows"))) (tRaise (wF E) c.noRight) tNext)
  (tRet (tDGet (tFld c.K (tVar 0) "rows") (tVar 1))))
-- Book_names: 0 self 1 aged 2 name 3 pair
def t_Book_names (c : Cs) (E : XK) : TS :=
  (tSeq (tAsg (tCB (rSortedD c.K) (tCons (tLockE (tLc (iKeys (tFld c.K (tVar 0) "rows")) (gName 2) tYes (tTup (tCons (tOp (rIxT c.K) (tDGet (tFld c.K (tVar 0) "rows") (tVar 2)) (tC (.int 2))) (tCons (tVar 2) tNil))) [2])) tNil)) (gName 1))
  (tRet (tLc (iList c.K (tVar 1)) (gName 3) tYes (tOp (rIxT c.K) (tVar 3) (tC (.int 1))) [3])))
-- Book_free: 0 self 1 name
def t_Book_free (c : Cs) (E : XK) : TS :=
  (tIfS (tB (tDIn (tVar 1) (tFld c.K (tVar 0) "rows"))) (tRaise (wF E) c.taken) tNext)
-- Book_grant: 0 self 1 name 2 point 3 amount 4 date
def t_Book_grant (c : Cs) (E : XK) : TS :=
  (tSeq (tDrop (tMethS c.book "free" (sp_Book_free c) (wF E) (tVar 0) (tCons (tVar 1) tNil)))
  (tSeq (tDrop (tMethS c.river "below" (sp_River_below c) (wF E) (tFld c.K (tVar 0) "stream") (tCons (tVar 2) tNil)))
  (tSeq (sDPut (tFld c.K (tVar 0) "rows") (tVar 1) (tTup (tCons (tVar 2) (tCons (tVar 3) (tCons (tVar 4) tNil)))))
  (tRet (tCB rLenD (tCons (tFld c.K (tVar 0) "rows") tNil))))))
-- Book_drop: 0 self 1 name
def t_Book_drop (c : Cs) (E : XK) : TS :=
  (tSeq (tDrop (tMethS c.book "right" (sp_Book_right c) (wF E) (tVar 0) (tCons (tVar 1) tNil)))
  (tSeq (tDrop (tDPop1 (tFld c.K (tVar 0) "rows") (tVar 1)))
  (tRet (tCB rLenD (tCons (tFld c.K (tVar 0) "rows") tNil)))))
-- Book_part: 0 self 1 name 2 other 3 amount 4 row
def t_Book_part (c : Cs) (E : XK) : TS :=
  (tSeq (tAsg (tMethS c.book "right" (sp_Book_right c) (wF E) (tVar 0) (tCons (tVar 1) tNil)) (gName 4))
  (tSeq (tDrop (tMethS c.book "free" (sp_Book_free c) (wF E) (tVar 0) (tCons (tVar 2) tNil)))
  (tSeq (tIfS (tTest (tOp rGtI (tVar 3) (tOp (rIxT c.K) (tVar 4) (tC (.int 1))))) (tRaise (wF E) c.tooMuch) tNext)
  (tSeq (sDPut (tFld c.K (tVar 0) "rows") (tVar 1) (tTup (tCons (tOp (rIxT c.K) (tVar 4) (tC (.int 0))) (tCons (tOp rSubI (tOp (rIxT c.K) (tVar 4) (tC (.int 1))) (tVar 3)) (tCons (tOp (rIxT c.K) (tVar 4) (tC (.int 2))) tNil)))))
  (tSeq (sDPut (tFld c.K (tVar 0) "rows") (tVar 2) (tTup (tCons (tOp (rIxT c.K) (tVar 4) (tC (.int 0))) (tCons (tVar 3) (tCons (tOp (rIxT c.K) (tVar 4) (tC (.int 2))) tNil)))))
  (tRet (tCB rLenD (tCons (tFld c.K (tVar 0) "rows") tNil))))))))
-- Book_unite: 0 self 1 name 2 other 3 one 4 two
def t_Book_unite (c : Cs) (E : XK) : TS :=
  (tSeq (tAsg (tMethS c.book "right" (sp_Book_right c) (wF E) (tVar 0) (tCons (tVar 1) tNil)) (gName 3))
  (tSeq (tAsg (tMethS c.book "right" (sp_Book_right c) (wF E) (tVar 0) (tCons (tVar 2) tNil)) (gName 4))
  (tSeq (tIfS (tOr (tTest (tOp rEq (tVar 1) (tVar 2))) (tOr (tTest (tOp rNe (tOp (rIxT c.K) (tVar 3) (tC (.int 0))) (tOp (rIxT c.K) (tVar 4) (tC (.int 0))))) (tOr (tTest (tOp rNe (tOp (rIxT c.K) (tVar 3) (tC (.int 2))) (tOp (rIxT c.K) (tVar 4) (tC (.int 2))))) (tTest (tOp rGtI (tOp rAddI (tOp (rIxT c.K) (tVar 3) (tC (.int 1))) (tOp (rIxT c.K) (tVar 4) (tC (.int 1)))) (tC (.int 1000000))))))) (tRaise (wF E) c.unlike) tNext)
  (tSeq (sDPut (tFld c.K (tVar 0) "rows") (tVar 1) (tTup (tCons (tOp (rIxT c.K) (tVar 3) (tC (.int 0))) (tCons (tOp rAddI (tOp (rIxT c.K) (tVar 3) (tC (.int 1))) (tOp (rIxT c.K) (tVar 4) (tC (.int 1)))) (tCons (tOp (rIxT c.K) (tVar 3) (tC (.int 2))) tNil)))))
  (tSeq (tDrop (tDPop1 (tFld c.K (tVar 0) "rows") (tVar 2)))
  (tRet (tCB rLenD (tCons (tFld c.K (tVar 0) "rows") tNil))))))))
-- Book_shift: 0 self 1 name 2 point 3 row
def t_Book_shift (c : Cs) (E : XK) : TS :=
  (tSeq (tAsg (tMethS c.book "right" (sp_Book_right c) (wF E) (tVar 0) (tCons (tVar 1) tNil)) (gName 3))
  (tSeq (sDPut (tFld c.K (tVar 0) "rows") (tVar 1) (tTup (tCons (tVar 2) (tCons (tOp (rIxT c.K) (tVar 3) (tC (.int 1))) (tCons (tOp (rIxT c.K) (tVar 3) (tC (.int 2))) tNil)))))
  (tRet (tOp (rIxT c.K) (tVar 3) (tC (.int 0))))))
section
variable {c : Cs}
theorem pure_Book_init (R : BookT c) (vs : List V) (H : Hp) (Q : VK) (E : XK) (h : sp_Book_init c vs H Q E) : t_Book_init c E { nx := fun _ H' => Q .non H', rt := Q } (start ["self", "river"] vs) H := by
  obtain ⟨x, dx, r, l, B, rfl, hx, A, k⟩ := h
  obtain ⟨dx2, hr⟩ := A.ob
  have hl := A.li
  have n1 : r ∉ [x] := by lcg_sub
  have n2 : l ∉ [x] := by lcg_sub
  unfold t_Book_init
  repeat lcg_off
  refine k_setF hx R.cl R.nS (by decide) fun H1 b1 h1 => ?_
  repeat lcg_off
  refine dic_new fun d H2 hd e2 h2 => ?_
  repeat lcg_off
  refine k_setF (e2.g _ _ h1) R.cl R.nR (by show 1 < 1000; decide) fun H3 b3 h3 => ?_
  repeat lcg_off
  have nx : x ≠ d := ne_nf hd h1
  have hd0 : H d = none := by
    cases q : H d with
    | none => rfl
    | some o =>
      rw [b1.g _ _ q (nin_cons nx.symm nin_nil)] at hd
      cases hd
  have A1 : RivAt c H1 r l B := A.but b1 n1 n2
  have A2 : RivAt c H2 r l B := A1.ext e2
  exact k d H3 hd0 ((b1.step e2).trans b3) ⟨⟨dx, h3⟩, A2.but b3 n1 n2, ⟨⟨[], b3.g _ _ h2 (nin_cons nx.symm nin_nil), .nil⟩⟩, List.nodup_nil, (fun w hw => by cases hw), Nat.zero_le _⟩
theorem pure_Book_river (R : BookT c) (vs : List V) (H : Hp) (Q : VK) (E : XK) (h : sp_Book_river c vs H Q E) : t_Book_river c E { nx := fun _ H' => Q .non H', rt := Q } (start ["self"] vs) H := by
  obtain ⟨b, r, l, B, d, R', rfl, A, k⟩ := h
  obtain ⟨dx, hb⟩ := A.ob
  unfold t_Book_river
  repeat lcg_off
  refine k_fld hb R.cl R.nS (by lcg_src) ?_
  repeat lcg_off
  exact k
theorem pure_Book_right (T : BookT c) (vs : List V) (H : Hp) (Q : VK) (E : XK) (h : sp_Book_right c vs H Q E) : t_Book_right c E { nx := fun _ H' => Q .non H', rt := Q } (start ["self", "name"] vs) H := by
  obtain ⟨b, r, l, B, d, R, n, rfl, A, k, kE⟩ := h
  obtain ⟨dx, hb⟩ := A.ob
  unfold t_Book_right
  repeat lcg_off
  refine k_fld hb T.cl T.nR (by lcg_src) ?_
  repeat lcg_off
  refine dic_notin A.dic ?_
  repeat lcg_off
  refine k_ifN (fun h1 => ?_) (fun h1 => ?_)
  · repeat lcg_off
    exact kE h1
  · repeat lcg_off
    refine k_fld hb T.cl T.nR (by lcg_src) ?_
    repeat lcg_off
    obtain ⟨w, hw, hn⟩ := List.mem_map.mp h1
    refine dic_get A.dic A.nd hw hn ?_
    rintro v ⟨t, rfl, ht⟩
    exact k w hw hn t ht
theorem pure_Book_free (T : BookT c) (vs : List V) (H : Hp) (Q : VK) (E : XK) (h : sp_Book_free c vs H Q E) : t_Book_free c E { nx := fun _ H' => Q .non H', rt := Q } (start ["self", "name"] vs) H := by
  obtain ⟨b, r, l, B, d, R, n, rfl, A, k, kE⟩ := h
  obtain ⟨dx, hb⟩ := A.ob
  unfold t_Book_free
  repeat lcg_off
  refine k_fld hb T.cl T.nR (by lcg_src) ?_
  repeat lcg_off
  refine dic_in A.dic ?_
  repeat lcg_off
  refine k_ifD (fun h1 => ?_) (fun h1 => ?_)
  · repeat lcg_off
    exact kE h1
  · repeat lcg_off
    exact k h1
theorem pure_Book_names (T : BookT c) (vs : List V) (H : Hp) (Q : VK) (E : XK) (h : sp_Book_names c vs H Q E) : t_Book_names c E { nx := fun _ H' => Q .non H', rt := Q } (start ["self", "aged", "name", "pair"] vs) H := by
  obtain ⟨b, r, l, B, d, R, rfl, A, k⟩ := h
  obtain ⟨dx, hb⟩ := A.ob
  obtain ⟨kvs, hd, pk⟩ := A.dic.ex
  have hf := A.few
  have hl := pk.len
  have nb : b ≠ d := A.dic.ne hb fun _ z => by cases z
  unfold t_Book_names
  repeat lcg_off
  refine k_lockE hd fun od H1 b1 h1 t1 => ?_
  repeat lcg_off
  refine k_fld (b1.g _ _ hb (nin_cons nb nin_nil)) T.cl T.nR (by lcg_src) ?_
  repeat lcg_off
  refine k_itk h1 ?_
  refine k_lcK h1 (fun i => R.getD i default) (fun H' v w => ∃ t, v = .ref t ∧ H' t = some (.tup [.int w.d, .str w.n])) (fun H1 H2 v w e ⟨t, q1, q2⟩ => ⟨t, q1, e.g _ _ q2⟩) (fun x => rfl) (by omega) (fun i ky v hi H2 ac Q1 q => ?_) (fun D ws H2 hD e2 hws' pr => ?_)
  · obtain ⟨ek, hw, _⟩ := pk.at i ky v hi
    subst ek
    obtain ⟨v2, hv2, t2, rfl, ht2⟩ := pk.get A.nd _ hw
    generalize R.getD i default = w at hw hv2 ht2 q
    have ht3 : H2 t2 = some (.tup [nV w.p, .int w.a, .int w.d]) := ac.g _ _ (t1.g _ _ ht2)
    show tTup _ _ _ _
    repeat lcg_off
    refine k_fld (ac.g _ _ (b1.g _ _ hb (nin_cons nb nin_nil))) T.cl T.nR (by lcg_src) ?_
    repeat lcg_off
    refine k_dget (k := .inr w.n) (.inr ⟨od, ac.g _ _ h1⟩) hv2 ?_
    repeat lcg_off
    intro p3 H3 hp3 e3 h3
    exact q _ H3 e3 ⟨p3, rfl, h3⟩
  · rw [hl, range_map R (fun w => w), List.map_id'] at pr
    refine k_unl hd b1 h1 e2 fun H3 e3 b3 => ?_
    repeat lcg_off
    have nD : D ∉ [d] := nin_cons (ne_fn hD h1) nin_nil
    have hws : H3 D = some (.lst ws) := b3.g _ _ hws' nD
    have pr3 : Paired (fun v (w : Rw) => ∃ t, v = .ref t ∧ H3 t = some (.tup [.int w.d, .str w.n])) ws R := Paired.mono (fun v w ⟨t, q1, q2⟩ => ⟨t, q1, b3.g _ _ q2 (nin_cons (ne_k1 q2 (e2.g _ _ h1) (by intro z; cases z)) nin_nil)⟩) pr
    refine k_sortedD R (fun w => .tuple [.int w.d, .str w.n]) _ (SqL.of hws) pr3 (fun v w ⟨t, q1, q2⟩ => by subst q1; exact .tup (SqT.of q2) (.cons (.int _) (.cons (.str _) .nil))) (fun b b' => by simp [PySem.W.alike, PySem.W.alikeAll]) (fun b => ⟨_, _, rfl⟩) (fun b => by simp [PyData.depth, PyData.depthAll]) fun ys p4 H4 hp4 e4 h4 pr4 => ?_
    rw [dataLe_age] at pr4
    have pr5 : Paired (fun v (w : Rw) => ∃ t, v = .ref t ∧ H4 t = some (.tup [.int w.d, .str w.n])) ys (agedR R) := Paired.mono (fun v w ⟨t, q1, q2⟩ => ⟨t, q1, e4.g _ _ q2⟩) pr4
    have hys : ys.length = R.length := by rw [paired_len pr5, agedR_len]
    repeat lcg_off
    refine k_lcP (Ro := fun _ v n => v = .str n) (fun _ => true) Rw.n (SqL.of h4) pr5 (fun _ _ _ _ _ h => h) (fun x => rfl) (by omega) (fun v w hw hv H5 ac QB q => by (repeat lcg_off); exact q H5 (Ext.refl _)) (fun v w hw hv _ H5 ac Q1 q => ?_) (fun D2 ws2 H5 hD2 e5 h5 pr6 => ?_)
    · obtain ⟨t, rfl, ht⟩ := hv
      have ht5 : H5 t = some (.tup [.int w.d, .str w.n]) := ac.g _ _ ht
      repeat lcg_off
      exact q _ H5 (Ext.refl _) rfl
    · rw [filter_yes] at pr6
      refine k D2 H5 (e3.free (e4.free hD2)) ((e3.trans e4).trans e5) ?_
      rw [h5, paired_eq pr6, List.map_map]
      rfl
theorem pure_Book_grant (T : BookT c) (vs : List V) (H : Hp) (Q : VK) (E : XK) (h : sp_Book_grant c vs H Q E) : t_Book_grant c E { nx := fun _ H' => Q .non H', rt := Q } (start ["self", "name", "point", "amount", "date"] vs) H := by
  obtain ⟨b, r, l, B, d, R, n, z, a, dt, rfl, A, hlen, kT, kN, k⟩ := h
  obtain ⟨dx, hb⟩ := A.ob
  unfold t_Book_grant
  repeat lcg_off
  refine k_meth hb (by lcg_src) ?_
  repeat lcg_off
  refine ⟨b, r, l, B, d, R, n, rfl, A, fun h1 => ?_, kT⟩
  repeat lcg_off
  refine k_fld hb T.cl T.nS (by lcg_src) ?_
  repeat lcg_off
  refine k_meth A.riv.ob.choose_spec (by lcg_src) ?_
  repeat lcg_off
  refine ⟨r, l, B, z, rfl, A.riv, fun p hz hp => ?_, fun hz => kN h1 hz⟩
  subst hz
  repeat lcg_off
  intro t H1 ht e1 h3
  repeat lcg_off
  refine k_fld (e1.g _ _ hb) T.cl T.nR (by lcg_src) ?_
  repeat lcg_off
  refine dic_put (w := ⟨n, p, a, dt⟩) RwV_mono (A.dic.ext RwV_mono e1) rfl ⟨t, rfl, h3⟩ (by omega) fun H2 b2 t2 D2 => ?_
  rw [putR_new (w := (⟨n, p, a, dt⟩ : Rw)) h1] at D2
  have A2 : BokAt c H2 b r l B d (R ++ [⟨n, p, a, dt⟩]) := by
    refine (A.ext e1).put b2 D2 (snoc_nodup A.nd h1) (fun w hw => ?_) (by rw [List.length_append]; show R.length + 1 ≤ 1000; omega)
    rcases List.mem_append.mp hw with hw | hw
    · exact A.pts w hw
    · have e : w = ⟨n, p, a, dt⟩ := by simpa using hw
      rw [e]
      exact hp
  obtain ⟨dx2, hb2⟩ := A2.ob
  repeat lcg_off
  refine k_fld hb2 T.cl T.nR (by lcg_src) ?_
  repeat lcg_off
  refine dic_len (K := c.K) D2 ?_
  have := k h1 p rfl hp H2 (e1.but.trans b2) (e1.tup.trans t2) A2
  rw [List.length_append]
  exact_mod_cast this
theorem pure_Book_drop (T : BookT c) (vs : List V) (H : Hp) (Q : VK) (E : XK) (h : sp_Book_drop c vs H Q E) : t_Book_drop c E { nx := fun _ H' => Q .non H', rt := Q } (start ["self", "name"] vs) H := by
  obtain ⟨b, r, l, B, d, R, n, rfl, A, k, kE⟩ := h
  obtain ⟨dx, hb⟩ := A.ob
  unfold t_Book_drop
  repeat lcg_off
  refine k_meth hb (by lcg_src) ?_
  repeat lcg_off
  refine ⟨b, r, l, B, d, R, n, rfl, A, fun w hw hn t ht => ?_, kE⟩
  repeat lcg_off
  refine k_fld hb T.cl T.nR (by lcg_src) ?_
  refine k_dpop1 A.dic.isD ?_
  repeat lcg_off
  refine dic_pop RwV_mono A.dic A.nd hw hn fun v H1 b1 t1 D1 => ?_
  have hf := A.few
  have A1 : BokAt c H1 b r l B d (dropR Rw.n R n) := A.put b1 D1 (dropR_nodup A.nd) (fun w hw => A.pts w (dropR_mem hw)) (Nat.le_trans dropR_len hf)
  obtain ⟨dx2, hb2⟩ := A1.ob
  repeat lcg_off
  refine k_fld hb2 T.cl T.nR (by lcg_src) ?_
  repeat lcg_off
  exact dic_len (K := c.K) D1 (k (List.mem_map.mpr ⟨w, hw, hn⟩) H1 b1 t1 A1)
theorem pure_Book_shift (T : BookT c) (vs : List V) (H : Hp) (Q : VK) (E : XK) (h : sp_Book_shift c vs H Q E) : t_Book_shift c E { nx := fun _ H' => Q .non H', rt := Q } (start ["self", "name", "point", "row"] vs) H := by
  obtain ⟨b, r, l, B, d, R, n, p, rfl, A, hp, kE, k⟩ := h
  obtain ⟨dx, hb⟩ := A.ob
  have hf := A.few
  unfold t_Book_shift
  repeat lcg_off
  refine k_meth hb (by lcg_src) ?_
  repeat lcg_off
  refine ⟨b, r, l, B, d, R, n, rfl, A, fun w hw hn t ht => ?_, kE⟩
  repeat lcg_off
  intro t1 H1 ht1 e1 h1
  repeat lcg_off
  refine k_fld (e1.g _ _ hb) T.cl T.nR (by lcg_src) ?_
  repeat lcg_off
  have hin : n ∈ R.map Rw.n := List.mem_map.mpr ⟨w, hw, hn⟩
  refine dic_put (w := ⟨n, p, w.a, w.d⟩) RwV_mono (A.dic.ext RwV_mono e1) rfl ⟨t1, rfl, h1⟩ (by omega) fun H2 b2 t2 D2 => ?_
  rw [putR_old (w := (⟨n, p, w.a, w.d⟩ : Rw)) hin] at D2
  have A2 : BokAt c H2 b r l B d (repR R ⟨n, p, w.a, w.d⟩) := by
    refine (A.ext e1).put b2 D2 (by rw [repR_names]; exact A.nd) (fun u hu => ?_) (by rw [repR_len]; exact hf)
    rcases repR_mem hu with e | hu
    · rw [e]
      exact hp
    · exact A.pts u hu
  have ht2 : H2 t = some (.tup [nV w.p, .int w.a, .int w.d]) := t2.g _ _ (e1.g _ _ ht)
  repeat lcg_off
  exact k w hw hn H2 (e1.but.trans b2) (e1.tup.trans t2) A2
theorem pure_Book_part (T : BookT c) (vs : List V) (H : Hp) (Q : VK) (E : XK) (h : sp_Book_part c vs H Q E) : t_Book_part c E { nx := fun _ H' => Q .non H', rt := Q } (start ["self", "name", "other", "amount", "row"] vs) H := by
  obtain ⟨b, r, l, B, d, R, n, o, a, rfl, A, hlen, kN, kT, k⟩ := h
  obtain ⟨dx, hb⟩ := A.ob
  have hf := A.few
  unfold t_Book_part
  repeat lcg_off
  refine k_meth hb (by lcg_src) ?_
  repeat lcg_off
  refine ⟨b, r, l, B, d, R, n, rfl, A, fun w hw hn t ht => ?_, kN⟩
  have hin : n ∈ R.map Rw.n := List.mem_map.mpr ⟨w, hw, hn⟩
  repeat lcg_off
  refine k_meth hb (by lcg_src) ?_
  repeat lcg_off
  refine ⟨b, r, l, B, d, R, o, rfl, A, fun ho => ?_, kT hin⟩
  obtain ⟨k1, k2⟩ := k w hw hn ho
  repeat lcg_off
  refine k_ifD (fun h1 => ?_) (fun hna => ?_)
  · repeat lcg_off
    exact k1 h1
  repeat lcg_off
  intro t1 H1 ht1 e1 h1
  repeat lcg_off
  refine k_fld (e1.g _ _ hb) T.cl T.nR (by lcg_src) ?_
  repeat lcg_off
  refine dic_put (w := ⟨n, w.p, w.a - a, w.d⟩) RwV_mono (A.dic.ext RwV_mono e1) rfl ⟨t1, rfl, h1⟩ (by omega) fun H2 b2 t2 D2 => ?_
  rw [putR_old (w := (⟨n, w.p, w.a - a, w.d⟩ : Rw)) hin] at D2
  have A2 : BokAt c H2 b r l B d (repR R ⟨n, w.p, w.a - a, w.d⟩) := by
    refine (A.ext e1).put b2 D2 (by rw [repR_names]; exact A.nd) (fun u hu => ?_) (by rw [repR_len]; exact hf)
    rcases repR_mem hu with e | hu
    · rw [e]
      exact A.pts w hw
    · exact A.pts u hu
  obtain ⟨dx2, hb2⟩ := A2.ob
  have ht2 : H2 t = some (.tup [nV w.p, .int w.a, .int w.d]) := t2.g _ _ (e1.g _ _ ht)
  repeat lcg_off
  intro t3 H3 ht3 e3 h3
  repeat lcg_off
  refine k_fld (e3.g _ _ hb2) T.cl T.nR (by lcg_src) ?_
  repeat lcg_off
  have ho' : o ∉ (repR R ⟨n, w.p, w.a - a, w.d⟩).map Rw.n := by rw [repR_names]; exact ho
  refine dic_put (w := ⟨o, w.p, a, w.d⟩) RwV_mono (A2.dic.ext RwV_mono e3) rfl ⟨t3, rfl, h3⟩ (by rw [repR_len]; omega) fun H4 b4 t4 D4 => ?_
  rw [putR_new (w := (⟨o, w.p, a, w.d⟩ : Rw)) ho'] at D4
  have A4 : BokAt c H4 b r l B d (repR R ⟨n, w.p, w.a - a, w.d⟩ ++ [⟨o, w.p, a, w.d⟩]) := by
    refine (A2.ext e3).put b4 D4 (snoc_nodup A2.nd ho') (fun u hu => ?_) (by rw [List.length_append, repR_len]; show R.length + 1 ≤ 1000; omega)
    rcases List.mem_append.mp hu with hu | hu
    · exact A2.pts u hu
    · have e : u = ⟨o, w.p, a, w.d⟩ := by simpa using hu
      rw [e]
      exact A.pts w hw
  obtain ⟨dx4, hb4⟩ := A4.ob
  repeat lcg_off
  refine k_fld hb4 T.cl T.nR (by lcg_src) ?_
  repeat lcg_off
  refine dic_len (K := c.K) D4 ?_
  have := k2 hna H4 (((e1.but.trans b2).step e3).trans b4) (((e1.tup.trans t2).trans e3.tup).trans t4) A4
  rw [List.length_append, repR_len]
  exact_mod_cast this
theorem pure_Book_unite (T : BookT c) (vs : List V) (H : Hp) (Q : VK) (E : XK) (h : sp_Book_unite c vs H Q E) : t_Book_unite c E { nx := fun _ H' => Q .non H', rt := Q } (start ["self", "name", "other", "one", "two"] vs) H := by
  obtain ⟨b, r, l, B, d, R, n, o, rfl, A, kN, k⟩ := h
  obtain ⟨dx, hb⟩ := A.ob
  have hf := A.few
  unfold t_Book_unite
  repeat lcg_off
  refine k_meth hb (by lcg_src) ?_
  repeat lcg_off
  refine ⟨b, r, l, B, d, R, n, rfl, A, fun w hw hn t ht => ?_, fun z => kN (.inl z)⟩
  have hin : n ∈ R.map Rw.n := List.mem_map.mpr ⟨w, hw, hn⟩
  repeat lcg_off
  refine k_meth hb (by lcg_src) ?_
  repeat lcg_off
  refine ⟨b, r, l, B, d, R, o, rfl, A, fun u hu ho t' ht' => ?_, fun z => kN (.inr z)⟩
  have hio : o ∈ R.map Rw.n := List.mem_map.mpr ⟨u, hu, ho⟩
  obtain ⟨k1, k2⟩ := k w hw hn u hu ho
  repeat lcg_off
  refine k_orD (fun h1 => ?_) fun n1 => ?_
  · repeat lcg_off
    exact k1 (.inl h1)
  repeat lcg_off
  refine k_orN (fun h1 => ?_) fun n2 => ?_
  · repeat lcg_off
    exact k1 (.inr (.inl fun z => h1 (by rw [z])))
  repeat lcg_off
  refine k_orN (fun h1 => ?_) fun n3 => ?_
  · repeat lcg_off
    exact k1 (.inr (.inr (.inl h1)))
  repeat lcg_off
  refine k_ifD (fun h1 => ?_) fun n4 => ?_
  · repeat lcg_off
    exact k1 (.inr (.inr (.inr h1)))
  have hno : ¬ notUn n o w u := fun z => by
    rcases z with z | z | z | z
    · exact n1 z
    · omega
    · exact z n3
    · exact n4 z
  repeat lcg_off
  intro t1 H1 ht1 e1 h1
  repeat lcg_off
  refine k_fld (e1.g _ _ hb) T.cl T.nR (by lcg_src) ?_
  repeat lcg_off
  refine dic_put (w := ⟨n, w.p, w.a + u.a, w.d⟩) RwV_mono (A.dic.ext RwV_mono e1) rfl ⟨t1, rfl, h1⟩ (by omega) fun H2 b2 t2 D2 => ?_
  rw [putR_old (w := (⟨n, w.p, w.a + u.a, w.d⟩ : Rw)) hin] at D2
  have A2 : BokAt c H2 b r l B d (repR R ⟨n, w.p, w.a + u.a, w.d⟩) := by
    refine (A.ext e1).put b2 D2 (by rw [repR_names]; exact A.nd) (fun u hu => ?_) (by rw [repR_len]; exact hf)
    rcases repR_mem hu with e | hu
    · rw [e]
      exact A.pts w hw
    · exact A.pts u hu
  obtain ⟨dx2, hb2⟩ := A2.ob
  repeat lcg_off
  refine k_fld hb2 T.cl T.nR (by lcg_src) ?_
  refine k_dpop1 A2.dic.isD ?_
  repeat lcg_off
  have hio2 : o ∈ (repR R ⟨n, w.p, w.a + u.a, w.d⟩).map Rw.n := by rw [repR_names]; exact hio
  obtain ⟨v, hv, hvo⟩ := List.mem_map.mp hio2
  refine dic_pop RwV_mono A2.dic A2.nd hv hvo fun v3 H3 b3 t3 D3 => ?_
  have A3 : BokAt c H3 b r l B d (dropR Rw.n (repR R ⟨n, w.p, w.a + u.a, w.d⟩) o) := A2.put b3 D3 (dropR_nodup A2.nd) (fun w hw => A2.pts w (dropR_mem hw)) (Nat.le_trans dropR_len A2.few)
  obtain ⟨dx3, hb3⟩ := A3.ob
  repeat lcg_off
  refine k_fld hb3 T.cl T.nR (by lcg_src) ?_
  repeat lcg_off
  exact dic_len (K := c.K) D3 (k2 hno H3 ((e1.but.trans b2).trans b3) ((e1.tup.trans t2).trans t3) A3)
end
section
variable {c : Cs} {σ : L2.St} {H : Hp} {Q : VK} {W : WX}
theorem k_mkBook {r l : Addr} {B : List Nat} (A : RivAt c H r l B) (k : ∀ x d H', H x = none → H d = none → x ≠ d → Ext H H' → BokAt c H' x r l B d [] → Q (.ref x) H') : kMk c.book (sp_Book_init c) W σ Q [.ref r] H := by
  refine k_mk fun x dx H2 hx e2 h2 => ?_
  refine ⟨x, dx, r, l, B, rfl, h2, A.ext e2, fun d H3 hd b3 A3 => ⟨rfl, ?_⟩⟩
  exact k x d H3 hx (e2.free hd) (ne_of_none h2 hd) (e2.ac.but b3 (frs_cons hx frs_nil)).ext A3
end
end Rv

end
section
namespace Rv
open PySem L2
open SX (S S_inj S_len S_cat join_S)
/-! ### texts -/
section
variable {K : PySem.W.Frag} {H : Hp} {Q : VK}
theorem k_slS {z : Str} {lo hi : Option Int} (h : z.length ≤ sizeLine) (q : Q (.str (cutS z lo hi)) H) : rSlS (.str z) lo hi H Q := ⟨z, rfl, h, q⟩
theorem k_slL {a : Addr} {xs : List V} {lo hi : Option Int} (h : SqL K H a xs) (q : ∀ p H', H p = none → Ext H H' → H' p = some (.lst (cutV xs lo hi)) → Q (.ref p) H') : rSlL K (.ref a) lo hi H Q := ⟨a, xs, rfl, h, fun p hp => q p _ hp (ext_new hp) upd_same⟩
theorem k_join {z : Str} {p : Addr} {ys : List Str} (h : SqL K H p (ys.map V.str)) (hz : (ys.map (·.length)).sum + ys.length * z.length ≤ 16777216) (q : Q (.str (Txt.join z ys)) H) : rJoin K (.str z) [.ref p] H Q := ⟨z, p, ys, rfl, rfl, .inl h, hz, q⟩
end
theorem cut_to {l : List Nat} {p : Nat} (h : p ≤ l.length) : cutS (S l) none (some (p : Int)) = S (l.take p) := by
  unfold cutS
  have e : (S l).length = l.length := S_len l
  rw [e, HT.sIx_none, HT.sIx_nat, Nat.min_eq_left h]
  rfl
theorem cut_from {l : List Nat} {p : Nat} (h : p ≤ l.length) : cutS (S l) (some (p : Int)) none = S (l.drop p) := by
  unfold cutS
  have e : (S l).length = l.length := S_len l
  rw [e, HT.sIx_none, HT.sIx_nat, Nat.min_eq_left h]
  show S ((l.drop p).take (l.length - p)) = S (l.drop p)
  rw [List.take_of_length_le (by rw [List.length_drop]; exact Nat.le_refl _)]
theorem cutV_from {xs : List V} {p : Nat} (h : p ≤ xs.length) : cutV xs (some (p : Int)) none = xs.drop p := by
  unfold cutV
  rw [HT.sIx_none, HT.sIx_nat, Nat.min_eq_left h]
  rw [List.take_of_length_le (by rw [List.length_drop]; exact Nat.le_refl _)]
theorem joinL_nil : ∀ ys : List (List Nat), TL.joinL [] ys = ys.flatten
  | [] => rfl
  | [x] => by
    show x = _
    simp
  | x :: y :: r => by
    have := joinL_nil (y :: r)
    show x ++ ([] ++ TL.joinL [] (y :: r)) = _
    rw [this]
    rfl
theorem flat_one {α β : Type} (f : α → β) : ∀ l : List α, (l.map fun k => [f k]).flatten = l.map f
  | [] => rfl
  | a :: l => by
    rw [List.map_cons, List.flatten_cons, flat_one f l]
    rfl
theorem sum_ones {α : Type} (f : α → List Nat) (h : ∀ a, (f a).length = 1) : ∀ l : List α, (((l.map f).map S).map (·.length)).sum = l.length
  | [] => rfl
  | a :: l => by
    rw [List.map_cons, List.map_cons, List.map_cons, List.sum_cons, sum_ones f h l, S_len, h a, List.length_cons]
    omega
/-! ### the letters -/
def lettersL : List Nat := (List.range 26).map (97 + ·)
theorem letters_eq : (Str.ofString "abcdefghijklmnopqrstuvwxyz") = S lettersL := by decide +kernel
theorem lettersL_at {i : Int} (h0 : 0 ≤ i) (h1 : i < 26) : atI (S lettersL).cps.toList i = some (97 + i.toNat) := by
  obtain ⟨n, rfl⟩ := Int.eq_ofNat_of_zero_le h0
  refine atI_nat ?_
  show lettersL[n]? = _
  unfold lettersL
  rw [List.getElem?_map, List.getElem?_range (by omega)]
  rfl
/-- what the names have in common; where they part -/
def stemL (cl : Int) : List Nat := (List.range (cl % 8).toNat).map fun (k : Nat) => 97 + ((cl / 31 + 11 * (k : Int) * (k : Int) + (k : Int)) % 26).toNat
def placeN (cl : Int) : Nat := (cl / 8 % (((stemL cl).length : Int) + 1)).toNat
def nameL (cl : Int) (k : Nat) : List Nat := (stemL cl).take (placeN cl) ++ [97 + ((cl / 64 + 5 * (k : Int)) % 26).toNat] ++ (stemL cl).drop (placeN cl)
def nameS (cl : Int) (k : Nat) : Str := S (nameL cl k)
theorem stemL_len (cl : Int) : (stemL cl).length ≤ 7 := by
  unfold stemL
  rw [List.length_map, List.length_range]
  omega
theorem placeN_le (cl : Int) : placeN cl ≤ (stemL cl).length := by
  unfold placeN
  have h1 := Int.emod_lt_of_pos (cl / 8) (show (0 : Int) < ((stemL cl).length : Int) + 1 by omega)
  have h2 := Int.emod_nonneg (cl / 8) (show ((stemL cl).length : Int) + 1 ≠ 0 by omega)
  omega
theorem nameL_len (cl : Int) (k : Nat) : (nameL cl k).length = (stemL cl).length + 1 := by
  unfold nameL
  have := placeN_le cl
  rw [List.length_append, List.length_append, List.length_take, List.length_drop, List.length_cons, List.length_nil]
  omega
theorem nameS_inj {cl : Int} {i j : Nat} (hi : i < 26) (hj : j < 26) (h : nameS cl i = nameS cl j) : i = j := by
  have h1 := S_inj h
  unfold nameL at h1
  have h2 := (List.append_inj (List.append_inj h1 (by simp)).1 rfl).2
  have h3 : 97 + ((cl / 64 + 5 * (i : Int)) % 26).toNat = 97 + ((cl / 64 + 5 * (j : Int)) % 26).toNat := by
    injection h2
  omega
theorem nameL_az {cl : Int} {k c : Nat} (h : c ∈ nameL cl k) : 97 ≤ c ∧ c < 123 := by
  have hs : ∀ c ∈ stemL cl, 97 ≤ c ∧ c < 123 := fun c hc => by
    obtain ⟨k, _, rfl⟩ := List.mem_map.mp hc
    have := Int.emod_lt_of_pos (cl / 31 + 11 * (k : Int) * (k : Int) + (k : Int)) (show (0 : Int) < 26 by omega)
    have := Int.emod_nonneg (cl / 31 + 11 * (k : Int) * (k : Int) + (k : Int)) (show (26 : Int) ≠ 0 by omega)
    omega
  unfold nameL at h
  rcases List.mem_append.mp h with h | h
  · rcases List.mem_append.mp h with h | h
    · exact hs _ (List.mem_of_mem_take h)
    · have := List.mem_singleton.mp h
      omega
  · exact hs _ (List.mem_of_mem_drop h)
def sp_l_names (c : Cs) : Sp := fun vs H Q E => ∃ (cl : Int) (n : Nat), vs = [.int cl, .int n] ∧ n ≤ 1000 ∧ ∀ p H', H p = none → Ext H H' → H' p = some (.lst ((List.range n).map fun k => .str (nameS cl k))) → Q (.ref p) H'
end Rv
local macro_rules | `(tactic| lcg_src) => `(tactic| first
  | assumption
  | (with_reducible exact Rv.lk_here)
  | (refine (Rv.lk_past (by decide +kernel)).trans ?_; lcg_src)
  | (with_unfolding_all exact rfl))
local macro_rules | `(tactic| keq_hits) => `(tactic| first
  | assumption
  | ((with_reducible apply Rv.Ext.hl); (focus assumption); (focus keq_hits))
  | ((with_reducible apply Rv.But.hl); (focus assumption); (focus keq_hits); (focus keq_hits))
  | ((with_reducible apply Rv.Ac.hl); (focus assumption); (focus keq_hits))
  | ((with_reducible apply L2.SqL.of); (focus assumption))
  | ((with_reducible apply Rv.Ext.sq); (focus assumption); (focus keq_hits))
  | ((with_reducible apply Rv.But.sq); (focus assumption); (focus keq_hits); (focus keq_hits))
  | ((with_reducible apply Rv.Ac.sq); (focus assumption); (focus keq_hits))
  | ((with_reducible apply L2.SqT.of); (focus assumption))
  | ((with_reducible apply Rv.Ext.st); (focus assumption); (focus keq_hits))
  | ((with_reducible apply Rv.But.st); (focus assumption); (focus keq_hits); (focus keq_hits))
  | ((with_reducible apply Rv.Ac.st); (focus assumption); (focus keq_hits))
  | ((with_reducible apply L2.Rd.of); (focus keq_hits))
  | ((with_reducible apply Rv.RivAt.ext); (focus assumption); (focus keq_hits))
  | ((with_reducible apply Rv.RivAt.but); (focus assumption); (focus keq_hits); (focus keq_hits); (focus keq_hits))
  | ((with_reducible apply Rv.RivAt.ac); (focus assumption); (focus keq_hits))
  | (with_reducible apply Rv.nin_nil)
  | ((with_reducible apply Rv.BokAt.ext); (focus assumption); (focus keq_hits))
  | ((with_reducible apply Rv.DicAt.ne); (focus assumption); (focus assumption); (focus (intro _ z; cases z)))
  | ((with_reducible apply Rv.DicAt.nf); (focus assumption); (focus assumption))
  | ((with_reducible apply Rv.Ext.tup); (focus assumption))
  | ((with_reducible apply Rv.Ac.tup); (focus assumption))
  | ((with_reducible apply Rv.nin_cons); (focus keq_hits); (focus keq_hits))
  | (with_reducible apply Rv.frs_nil)
  | ((with_reducible apply Rv.frs_cons); (focus keq_hits); (focus keq_hits))
  | ((with_reducible apply Ne.symm); (focus assumption))
  | ((with_reducible apply Rv.ne_nf); (focus assumption); (focus assumption))
  | ((with_reducible apply Rv.ne_fn); (focus assumption); (focus assumption))
  | ((with_reducible apply Rv.ne_k1); (focus assumption); (focus assumption); (focus (first | (intro z; cases z; done) | ((with_reducible apply Rv.ins_ne); intro z; cases z; done))))
  | ((with_reducible apply Rv.ne_k2); (focus assumption); (focus assumption); (focus (first | (intro z; cases z; done) | ((with_reducible apply Rv.ins_ne); intro z; cases z; done))))
  | ((with_reducible apply Rv.free2); (focus assumption); (focus assumption))
  | (with_reducible apply Rv.Ac.refl)
  | ((with_reducible apply Rv.Ac.step'); (focus assumption); (focus keq_hits))
  | ((with_reducible apply Rv.Ac.but'); (focus assumption); (focus keq_hits); (focus keq_hits))
  | (with_reducible apply Rv.Ext.refl)
  | ((with_reducible apply Rv.Ac.ext); (focus keq_hits))
  | ((with_reducible apply Rv.sz_le); first | omega | (simp only [List.length_cons, List.length_nil, List.length_map, List.length_append]; omega))
  | ((with_reducible apply Rv.sz_lt); first | omega | (simp only [List.length_cons, List.length_nil, List.length_map, List.length_append]; omega)))
local macro_rules | `(tactic| kln_le) => `(tactic| first
  | assumption
  | ((with_reducible apply Rv.Ext.hl); (focus assumption); (focus kln_le))
  | ((with_reducible apply Rv.But.hl); (focus assumption); (focus kln_le); (focus kln_le))
  | ((with_reducible apply Rv.Ac.hl); (focus assumption); (focus kln_le))
  | ((with_reducible apply L2.SqL.of); (focus assumption))
  | ((with_reducible apply Rv.Ext.sq); (focus assumption); (focus kln_le))
  | ((with_reducible apply Rv.But.sq); (focus assumption); (focus kln_le); (focus kln_le))
  | ((with_reducible apply Rv.Ac.sq); (focus assumption); (focus kln_le))
  | ((with_reducible apply L2.SqT.of); (focus assumption))
  | ((with_reducible apply Rv.Ext.st); (focus assumption); (focus kln_le))
  | ((with_reducible apply Rv.But.st); (focus assumption); (focus kln_le); (focus kln_le))
  | ((with_reducible apply Rv.Ac.st); (focus assumption); (focus kln_le))
  | ((with_reducible apply L2.Rd.of); (focus kln_le))
  | ((with_reducible apply Rv.RivAt.ext); (focus assumption); (focus kln_le))
  | ((with_reducible apply Rv.RivAt.but); (focus assumption); (focus kln_le); (focus kln_le); (focus kln_le))
  | ((with_reducible apply Rv.RivAt.ac); (focus assumption); (focus kln_le))
  | (with_reducible apply Rv.nin_nil)
  | ((with_reducible apply Rv.BokAt.ext); (focus assumption); (focus kln_le))
  | ((with_reducible apply Rv.DicAt.ne); (focus assumption); (focus keq_hits); (focus (intro _ z; cases z)))
  | ((with_reducible apply Rv.DicAt.nf); (focus assumption); (focus keq_hits))
  | ((with_reducible apply Rv.Ext.tup); (focus assumption))
  | ((with_reducible apply Rv.Ac.tup); (focus assumption))
  | ((with_reducible apply Rv.nin_cons); (focus kln_le); (focus kln_le))
  | (with_reducible apply Rv.frs_nil)
  | ((with_reducible apply Rv.frs_cons); (focus kln_le); (focus kln_le))
  | ((with_reducible apply Ne.symm); (focus assumption))
  | ((with_reducible apply Rv.ne_nf); (focus assumption); (focus keq_hits))
  | ((with_reducible apply Rv.ne_fn); (focus assumption); (focus keq_hits))
  | ((with_reducible apply Rv.ne_k1); (focus assumption); (focus keq_hits); (focus (first | (intro z; cases z; done) | ((with_reducible apply Rv.ins_ne); intro z; cases z; done))))
  | ((with_reducible apply Rv.ne_k2); (focus assumption); (focus keq_hits); (focus (first | (intro z; cases z; done) | ((with_reducible apply Rv.ins_ne); intro z; cases z; done))))
  | ((with_reducible apply Rv.free2); (focus assumption); (focus keq_hits))
  | (with_reducible apply Rv.Ac.refl)
  | ((with_reducible apply Rv.Ac.step'); (focus assumption); (focus kln_le))
  | ((with_reducible apply Rv.Ac.but'); (focus assumption); (focus kln_le); (focus kln_le))
  | (with_reducible apply Rv.Ext.refl)
  | ((with_reducible apply Rv.Ac.ext); (focus kln_le))
  | ((with_reducible apply Rv.sz_le); first | omega | (simp only [List.length_cons, List.length_nil, List.length_map, List.length_append]; omega))
  | ((with_reducible apply Rv.sz_lt); first | omega | (simp only [List.length_cons, List.length_nil, List.length_map, List.length_append]; omega)))
local macro_rules | `(tactic| lcg_sub) => `(tactic| first
  | assumption
  | ((with_reducible apply Rv.Ext.hl); (focus assumption); (focus lcg_sub))
  | ((with_reducible apply Rv.But.hl); (focus assumption); (focus lcg_sub); (focus lcg_sub))
  | ((with_reducible apply Rv.Ac.hl); (focus assumption); (focus lcg_sub))
  | ((with_reducible apply L2.SqL.of); (focus assumption))
  | ((with_reducible apply Rv.Ext.sq); (focus assumption); (focus lcg_sub))
  | ((with_reducible apply Rv.But.sq); (focus assumption); (focus lcg_sub); (focus lcg_sub))
  | ((with_reducible apply Rv.Ac.sq); (focus assumption); (focus lcg_sub))
  | ((with_reducible apply L2.SqT.of); (focus assumption))
  | ((with_reducible apply Rv.Ext.st); (focus assumption); (focus lcg_sub))
  | ((with_reducible apply Rv.But.st); (focus assumption); (focus lcg_sub); (focus lcg_sub))
  | ((with_reducible apply Rv.Ac.st); (focus assumption); (focus lcg_sub))
  | ((with_reducible apply L2.Rd.of); (focus lcg_sub))
  | ((with_reducible apply Rv.RivAt.ext); (focus assumption); (focus lcg_sub))
  | ((with_reducible apply Rv.RivAt.but); (focus assumption); (focus lcg_sub); (focus lcg_sub); (focus lcg_sub))
  | ((with_reducible apply Rv.RivAt.ac); (focus assumption); (focus lcg_sub))
  | (with_reducible apply Rv.nin_nil)
  | ((with_reducible apply Rv.BokAt.ext); (focus assumption); (focus lcg_sub))
  | ((with_reducible apply Rv.DicAt.ne); (focus assumption); (focus kln_le); (focus (intro _ z; cases z)))
  | ((with_reducible apply Rv.DicAt.nf); (focus assumption); (focus kln_le))
  | ((with_reducible apply Rv.Ext.tup); (focus assumption))
  | ((with_reducible apply Rv.Ac.tup); (focus assumption))
  | ((with_reducible apply Rv.nin_cons); (focus lcg_sub); (focus lcg_sub))
  | (with_reducible apply Rv.frs_nil)
  | ((with_reducible apply Rv.frs_cons); (focus lcg_sub); (focus lcg_sub))
  | ((with_reducible apply Ne.symm); (focus assumption))
  | ((with_reducible apply Rv.ne_nf); (focus assumption); (focus kln_le))
  | ((with_reducible apply Rv.ne_fn); (focus assumption); (focus kln_le))
  | ((with_reducible apply Rv.ne_k1); (focus assumption); (focus kln_le); (focus (first | (intro z; cases z; done) | ((with_reducible apply Rv.ins_ne); intro z; cases z; done))))
  | ((with_reducible apply Rv.ne_k2); (focus assumption); (focus kln_le); (focus (first | (intro z; cases z; done) | ((with_reducible apply Rv.ins_ne); intro z; cases z; done))))
  | ((with_reducible apply Rv.free2); (focus assumption); (focus kln_le))
  | (with_reducible apply Rv.Ac.refl)
  | ((with_reducible apply Rv.Ac.step'); (focus assumption); (focus lcg_sub))
  | ((with_reducible apply Rv.Ac.but'); (focus assumption); (focus lcg_sub); (focus lcg_sub))
  | (with_reducible apply Rv.Ext.refl)
  | ((with_reducible apply Rv.Ac.ext); (focus lcg_sub))
  | ((with_reducible apply Rv.sz_le); first | omega | (simp only [List.length_cons, List.length_nil, List.length_map, List.length_append]; omega))
  | ((with_reducible apply Rv.sz_lt); first | omega | (simp only [List.length_cons, List.length_nil, List.length_map, List.length_append]; omega)))
local macro_rules | `(tactic| lcg_off) => `(tactic| first
  | (with_reducible apply Rv.r_seq)
  | (with_reducible apply Rv.r_asg)
  | (with_reducible apply Rv.r_op)
  | ((with_reducible apply Rv.r_var); (focus with_unfolding_all rfl))
  | (with_reducible apply Rv.r_c)
  | (with_reducible apply Rv.r_if)
  | (with_reducible apply Rv.r_test)
  | (with_reducible apply Rv.r_fld)
  | (with_reducible apply Rv.r_cons)
  | (with_reducible apply Rv.r_nil)
  | (with_reducible apply Rv.r_ret)
  | (with_reducible apply Rv.r_drop)
  | (with_reducible apply Rv.r_meth)
  | (with_reducible apply Rv.r_fn)
  | (with_reducible apply Rv.r_CB)
  | (with_reducible apply Rv.r_BM)
  | (with_reducible apply Rv.r_BM0)
  | (with_reducible apply Rv.k_bl)
  | (with_reducible apply Rv.r_not)
  | (with_reducible apply Rv.r_and)
  | (with_reducible apply Rv.r_or)
  | (with_reducible apply Rv.k_andT)
  | (with_reducible apply Rv.k_andF)
  | (with_reducible apply Rv.k_orT)
  | (with_reducible apply Rv.k_orF)
  | (with_reducible apply Rv.r_tB)
  | (with_reducible apply Rv.r_chain)
  | (with_reducible apply Rv.r_un)
  | (with_reducible apply Rv.r_tup)
  | (with_reducible apply Rv.r_lst)
  | (with_reducible apply Rv.r_andV)
  | (with_reducible apply Rv.r_orV)
  | (with_reducible apply Rv.r_notV)
  | (with_reducible apply Rv.r_ifE)
  | (with_reducible apply Rv.k_notV)
  | (with_reducible apply Rv.k_andVT)
  | (with_reducible apply Rv.k_andVF)
  | (with_reducible apply Rv.k_orVT)
  | (with_reducible apply Rv.k_orVF)
  | (with_reducible apply Rv.k_addI)
  | (with_reducible apply Rv.k_subI)
  | ((with_reducible apply Rv.k_mulI); (focus (unfold L2.CMul; omega)))
  | ((with_reducible apply Rv.k_divI); (focus (unfold L2.CDiv; omega)))
  | ((with_reducible apply Rv.k_modI); (focus omega))
  | ((with_reducible apply Rv.k_powI); (focus (unfold L2.CPow; decide)))
  | (with_reducible apply Rv.k_negI)
  | (with_reducible apply Rv.k_ltI)
  | (with_reducible apply Rv.k_leI)
  | (with_reducible apply Rv.k_gtI)
  | (with_reducible apply Rv.k_geI)
  | (with_reducible apply Rv.k_eqI)
  | (with_reducible apply Rv.k_neI)
  | (with_reducible apply Rv.k_eqS)
  | (with_reducible apply Rv.k_neS)
  | (with_reducible apply Rv.k_isNN)
  | (with_reducible apply Rv.k_isNI)
  | (with_reducible apply Rv.k_isNR)
  | (with_reducible apply Rv.k_notNN)
  | (with_reducible apply Rv.k_notNI)
  | (with_reducible apply Rv.k_notNR)
  | ((with_reducible apply Rv.k_tyL); (focus lcg_sub))
  | ((with_reducible apply Rv.k_ixT); (focus lcg_sub); (focus with_unfolding_all rfl))
  | ((with_reducible apply Rv.k_ixL); (focus lcg_sub); (focus with_unfolding_all rfl))
  | ((with_reducible apply Rv.k_lenL); (focus lcg_sub))
  | ((with_reducible apply Rv.k_lenU); (focus lcg_sub))
  | ((with_reducible apply Rv.k_tup); (focus lcg_sub))
  | ((with_reducible apply Rv.k_lst); (focus lcg_sub))
  | ((with_reducible apply Rv.k_list); (focus lcg_sub))
  | ((with_reducible apply Rv.k_append); (focus lcg_sub); (focus lcg_sub))
  | ((with_reducible apply Rv.k_cat); (focus lcg_sub); (focus lcg_sub); (focus lcg_sub))
  | ((with_reducible apply Rv.k_clear); (focus lcg_sub))
  | (with_reducible apply Rv.k_int1)
  | (with_reducible apply Rv.k_max2)
  | (with_reducible apply Rv.k_min2)
  | (with_reducible apply Rv.k_str)
  | (with_reducible apply Rv.k_part)
  | (with_reducible apply Rv.r_M1)
  | (with_reducible apply Rv.r_dget)
  | (with_reducible apply Rv.r_din)
  | (with_reducible apply Rv.r_dnotin)
  | (with_reducible apply Rv.r_dget2)
  | (with_reducible apply Rv.r_sl)
  | (with_reducible apply Rv.r_nopart)
  | (with_reducible apply Rv.r_part)
  | (with_reducible apply Rv.r_for)
  | (with_reducible apply Rv.r_lc)
  | (with_reducible apply Rv.r_yes)
  | (with_reducible apply Rv.r_iList)
  | (with_reducible apply Rv.r_iRng1)
  | (with_reducible apply Rv.r_iRng2)
  | (with_reducible apply Rv.r_iZip)
  | (with_reducible apply Rv.r_iStr)
  | (with_reducible apply Rv.r_iKeys)
  | (with_reducible apply Rv.r_lstRg)
  | ((with_reducible apply Rv.k_itl); (focus lcg_sub))
  | ((with_reducible apply Rv.k_zip); (focus lcg_sub); (focus lcg_sub))
  | ((with_reducible apply Rv.k_rng1); (focus omega))
  | ((with_reducible apply Rv.k_rng2); (focus omega))
  | (with_reducible apply Rv.k_its)
  | (with_reducible apply Rv.r_retN)
  | (with_reducible apply Rv.r_next)
  | (with_reducible apply Rv.r_setF)
  | (with_reducible apply Rv.r_dput)
  | (with_reducible apply Rv.r_setI)
  | (with_reducible apply Rv.r_raise)
  | (with_reducible apply Rv.r_wF)
  | (with_reducible apply Rv.k_ifTT)
  | (with_reducible apply Rv.k_ifFF)
  | (with_reducible apply Rv.k_ifNT)
  | (with_reducible apply Rv.k_ifNF)
  | (with_reducible apply Rv.k_andNT)
  | (with_reducible apply Rv.k_andNF)
  | (with_reducible apply Rv.k_orNT)
  | (with_reducible apply Rv.k_orNF)
  | (with_reducible apply Rv.k_andVNT)
  | (with_reducible apply Rv.k_andVNF)
  | (with_reducible apply Rv.k_orVNT)
  | (with_reducible apply Rv.k_orVNF)
  | (with_reducible apply Rv.k_isB_ii)
  | (with_reducible apply Rv.k_isB_ib)
  | (with_reducible apply Rv.k_isB_bi)
  | (with_reducible apply Rv.k_isB_bb)
  | (with_reducible apply Rv.k_isB_ni)
  | (with_reducible apply Rv.k_isB_ss)
  | ((with_reducible apply Rv.k_isB_ll); (focus lcg_sub))
  | ((with_reducible apply Rv.k_isB_tt); (focus lcg_sub))
  | (with_reducible apply Rv.r_mk)
  | (with_reducible apply Rv.r_rg1)
  | (with_reducible apply Rv.k_rg1)
  | (with_reducible apply Rv.r_dpop1)
  | (with_reducible apply Rv.k_ifNNT)
  | (with_reducible apply Rv.k_ifNNF)
  | (with_reducible apply Rv.r_dropE)
  | (with_reducible apply Rv.r_dropR)
  | (with_reducible apply Rv.r_dropN)
  | (with_reducible apply Rv.r_dropM))
namespace Rv
open PySem L2
open SX (S S_inj S_len S_cat join_S)
-- l_names: 0 cell 1 count 2 letters 3 stem 4 k 5 place
def t_l_names (c : Cs) (E : XK) : TS :=
  (tSeq (tAsg (tC (.str "abcdefghijklmnopqrstuvwxyz")) (gName 2))
  (tSeq (tAsg (tM1 (rJoin c.K) (tC (.str "")) (tLc (iRng1 (tCons (tOp rModI (tVar 0) (tC (.int 8))) tNil)) (gName 4) tYes (tOp rIxS (tVar 2) (tOp rModI (tOp rAddI (tOp rAddI (tOp rDivI (tVar 0) (tC (.int 31))) (tOp rMulI (tOp rMulI (tC (.int 11)) (tVar 4)) (tVar 4))) (tVar 4)) (tC (.int 26)))) [4])) (gName 3))
  (tSeq (tAsg (tOp rModI (tOp rDivI (tVar 0) (tC (.int 8))) (tOp rAddI (tCB rLenT (tCons (tVar 3) tNil)) (tC (.int 1)))) (gName 5))
  (tRet (tLc (iRng1 (tCons (tVar 1) tNil)) (gName 4) tYes (tOp rCatS (tOp rCatS (tSl rSlS (tVar 3) tNoPart (tPart (tVar 5))) (tOp rIxS (tVar 2) (tOp rModI (tOp rAddI (tOp rDivI (tVar 0) (tC (.int 64))) (tOp rMulI (tC (.int 5)) (tVar 4))) (tC (.int 26))))) (tSl rSlS (tVar 3) (tPart (tVar 5)) tNoPart)) [4])))))
section
variable {c : Cs}
theorem pure_l_names (vs : List V) (H : Hp) (Q : VK) (E : XK) (h : sp_l_names c vs H Q E) : t_l_names c E { nx := fun _ H' => Q .non H', rt := Q } (start ["cell", "count", "letters", "stem", "k", "place"] vs) H := by
  obtain ⟨cl, n, rfl, hn, q⟩ := h
  have m0 := Int.emod_nonneg cl (show (8 : Int) ≠ 0 by omega)
  have m1 := Int.emod_lt_of_pos cl (show (0 : Int) < 8 by omega)
  unfold t_l_names
  rw [letters_eq]
  have hll : (S lettersL).length ≤ sizeLine := by decide
  repeat lcg_off
  refine k_lcR (fun _ => true) (fun k => .str (S [97 + ((cl / 31 + 11 * (k : Int) * (k : Int) + (k : Int)) % 26).toNat])) (fun x => rfl) (by omega) (fun i hi H1 ac QB q => by (repeat lcg_off); exact q H1 (Ext.refl _)) (fun i hi _ H1 ac Q1 q => ?_) (fun D H1 hD e1 h1 => ?_)
  · rw [Int.zero_add]
    repeat lcg_off
    refine k_ixS hll (lettersL_at (Int.emod_nonneg _ (by omega)) (Int.emod_lt_of_pos _ (by omega))) ?_
    exact q H1 (Ext.refl _)
  rw [filter_yes] at h1
  have h1' : H1 D = some (.lst ((((List.range (cl % 8).toNat).map fun (k : Nat) => [97 + ((cl / 31 + 11 * (k : Int) * (k : Int) + (k : Int)) % 26).toNat]).map S).map V.str)) := by
    rw [h1, List.map_map, List.map_map]
    rfl
  have hj : Txt.join (Str.ofString "") (((List.range (cl % 8).toNat).map fun (k : Nat) => [97 + ((cl / 31 + 11 * (k : Int) * (k : Int) + (k : Int)) % 26).toNat]).map S) = S (stemL cl) := by
    rw [show Str.ofString "" = S [] by decide +kernel, join_S, joinL_nil, flat_one]
    rfl
  refine k_join (ys := ((List.range (cl % 8).toNat).map fun (k : Nat) => [97 + ((cl / 31 + 11 * (k : Int) * (k : Int) + (k : Int)) % 26).toNat]).map S) (SqL.of h1') ?_ ?_
  · rw [sum_ones _ (fun _ => rfl), List.length_range, show (Str.ofString "").length = 0 by decide +kernel]
    omega
  rw [hj]
  have hsl := stemL_len cl
  have hpl := placeN_le cl
  have hSl : (S (stemL cl)).length = (stemL cl).length := S_len _
  have hz : (S (stemL cl)).length ≤ sizeLine := by rw [hSl]; exact sz_le (by omega)
  repeat lcg_off
  refine k_lenT hz ?_
  rw [hSl]
  repeat lcg_off
  have hp : cl / 8 % (((stemL cl).length : Int) + 1) = (placeN cl : Int) := (Int.toNat_of_nonneg (Int.emod_nonneg _ (by omega))).symm
  rw [hp]
  repeat lcg_off
  rw [Int.toNat_natCast]
  refine k_lcR (fun _ => true) (fun k => .str (nameS cl k)) (fun x => rfl) (by omega) (fun i hi H1 ac QB q => by (repeat lcg_off); exact q H1 (Ext.refl _)) (fun i hi _ H2 ac Q1 q => ?_) (fun D2 H2 hD2 e2 h2 => ?_)
  · rw [Int.zero_add]
    repeat lcg_off
    refine k_slS hz ?_
    rw [cut_to hpl]
    repeat lcg_off
    refine k_ixS hll (lettersL_at (Int.emod_nonneg _ (by omega)) (Int.emod_lt_of_pos _ (by omega))) ?_
    have l1 : (S ((stemL cl).take (placeN cl))).length ≤ 7 := by rw [S_len, List.length_take]; omega
    have l2 : (S ((stemL cl).drop (placeN cl))).length ≤ 7 := by rw [S_len, List.length_drop]; omega
    refine k_catS (sz_le (by have : (⟨#[97 + ((cl / 64 + 5 * (i : Int)) % 26).toNat]⟩ : Str).length = 1 := rfl; omega)) ?_
    have e3 : S ((stemL cl).take (placeN cl)) ++ (⟨#[97 + ((cl / 64 + 5 * (i : Int)) % 26).toNat]⟩ : Str) = S ((stemL cl).take (placeN cl) ++ [97 + ((cl / 64 + 5 * (i : Int)) % 26).toNat]) := S_cat _ _
    rw [e3]
    repeat lcg_off
    refine k_slS hz ?_
    rw [cut_from hpl]
    have l3 : (S ((stemL cl).take (placeN cl) ++ [97 + ((cl / 64 + 5 * (i : Int)) % 26).toNat])).length ≤ 8 := by rw [S_len, List.length_append, List.length_take, List.length_cons, List.length_nil]; omega
    refine k_catS (sz_le (by omega)) ?_
    rw [S_cat]
    exact q H2 (Ext.refl _)
  · rw [filter_yes] at h2
    exact q D2 H2 (e1.free hD2) (e1.trans e2) h2
end
end Rv

end
section
namespace Rv
open PySem L2
/-! ### the laws' rights: tuples of name, point, amount, date -/
def rwV (w : Rw) : List V := [.str w.n, nV w.p, .int w.a, .int w.d]
def RwF : Hp → V → Rw → Prop := fun H v w => ∃ t, v = .ref t ∧ H t = some (.tup [.str w.n, nV w.p, .int w.a, .int w.d])
theorem RwF_mono : MonoV RwF := fun H H' v w e ⟨t, h1, h2⟩ => ⟨t, h1, e.g _ _ h2⟩
structure RtsAt (H : Hp) (p : Addr) (R : List Rw) : Prop where
  ex : ∃ xs, H p = some (.lst xs) ∧ Paired (RwF H) xs R
theorem RtsAt.to {H H' : Hp} {p : Addr} {R : List Rw} (A : RtsAt H p R) (t : TupE H H') (h : ∀ o, H p = some o → H' p = some o) : RtsAt H' p R :=
  let ⟨xs, h1, p1⟩ := A.ex
  ⟨xs, h _ h1, p1.mono fun v w q => RwF_mono _ _ v w t q⟩
theorem RtsAt.ext {H H' : Hp} {p : Addr} {R : List Rw} (A : RtsAt H p R) (e : Ext H H') : RtsAt H' p R := A.to e.tup fun o h => e.g _ _ h
theorem RtsAt.ac {H H' : Hp} {p : Addr} {R : List Rw} (A : RtsAt H p R) (e : Ac H H') : RtsAt H' p R := A.ext e.ext
theorem RtsAt.but {S : List Addr} {H H' : Hp} {p : Addr} {R : List Rw} (A : RtsAt H p R) (e : But S H H') (t : TupE H H') (n : p ∉ S) : RtsAt H' p R := A.to t fun o h => e.g _ _ h n
theorem RtsAt.len {H : Hp} {p : Addr} {R : List Rw} (A : RtsAt H p R) : ∃ xs, H p = some (.lst xs) ∧ xs.length = R.length := let ⟨xs, h, q⟩ := A.ex; ⟨xs, h, paired_len q⟩
theorem k_lenR {K : PySem.W.Frag} {H : Hp} {Q : VK} {p : Addr} {R : List Rw} (A : RtsAt H p R) (q : Q (.int R.length) H) : rLenS K [.ref p] H Q := by
  obtain ⟨xs, h, e⟩ := A.len
  exact k_lenL (SqL.of h) (by rw [e]; exact q)
theorem k_ixR {K : PySem.W.Frag} {H : Hp} {Q : VK} {p : Addr} {R : List Rw} {i : Nat} {w : Rw} (A : RtsAt H p R) (hw : R[i]? = some w) (q : ∀ t, H t = some (.tup [.str w.n, nV w.p, .int w.a, .int w.d]) → Q (.ref t) H) : rIxL K (.ref p) (.int (i : Int)) H Q := by
  obtain ⟨xs, h, pr⟩ := A.ex
  obtain ⟨v, hv, t, e, ht⟩ := paired_ta pr i w hw
  subst e
  exact k_ixL (SqL.of h) (atI_nat hv) (q t ht)
theorem k_ixRl {K : PySem.W.Frag} {H : Hp} {Q : VK} {p : Addr} {R : List Rw} {w : Rw} (A : RtsAt H p R) (hw : R[R.length - 1]? = some w) (q : ∀ t, H t = some (.tup [.str w.n, nV w.p, .int w.a, .int w.d]) → Q (.ref t) H) : rIxL K (.ref p) (.int (-1)) H Q := by
  obtain ⟨xs, h, pr⟩ := A.ex
  obtain ⟨v, hv, t, e, ht⟩ := paired_ta pr (R.length - 1) w hw
  subst e
  have hl := paired_len pr
  have h0 : 0 < R.length := by
    by_cases z : 0 < R.length
    · exact z
    · rw [List.getElem?_eq_none (by omega)] at hw
      cases hw
  refine k_ixL (SqL.of h) (v := .ref t) ?_ (q t ht)
  unfold atI
  rw [ixN_last (by omega), hl]
  exact hv
theorem RtsAt.ne {H : Hp} {p : Addr} {R : List Rw} (A : RtsAt H p R) {a : Addr} {o : HO} (h : H a = some o) (hk : ∀ xs, o ≠ .lst xs) : a ≠ p := fun e => by
  obtain ⟨xs, h1, _⟩ := A.ex
  subst e
  rw [h] at h1
  exact hk xs (Option.some.inj h1)
theorem RtsAt.nf {H : Hp} {p : Addr} {R : List Rw} (A : RtsAt H p R) {a : Addr} (h : H a = none) : p ≠ a := fun e => by
  obtain ⟨xs, h1, _⟩ := A.ex
  rw [e, h] at h1
  cases h1
theorem RtsAt.dic {c : Cs} {H H' : Hp} {b r l d p : Addr} {B : List Nat} {R S : List Rw} (A : RtsAt H p S) (h : BokAt c H b r l B d R) (e : But [d] H H') (t : TupE H H') : RtsAt H' p S := by
  obtain ⟨xs, h1, _⟩ := A.ex
  exact A.but e t (nin_cons (h.dic.ne h1 fun _ z => by cases z) nin_nil)
def amtF (a : Int) : Int := if a % 7 = 6 then a / 7 % 1000001 else a / 7 % 90
def datF (a : Int) : Int := if a % 5 = 4 then a / 5 % 10000 else a / 5 % 3
theorem amtF_ok (a : Int) : 0 ≤ amtF a ∧ amtF a ≤ 1000000 := by
  unfold amtF
  by_cases h : a % 7 = 6
  · rw [if_pos h]; omega
  · rw [if_neg h]; omega
theorem datF_ok (a : Int) : 0 ≤ datF a ∧ datF a ≤ 9999 := by
  unfold datF
  by_cases h : a % 5 = 4
  · rw [if_pos h]; omega
  · rw [if_neg h]; omega
def rightF (ns : List Int) (st size : Int) (k : Nat) : Rw := ⟨nameS (cell ns 1) k, (cell ns (st + 3 * (k : Int)) % size).toNat, amtF (cell ns (st + 3 * (k : Int) + 1)), datF (cell ns (st + 3 * (k : Int) + 2))⟩
def rightsM (ns : List Int) (st size : Int) (n : Nat) : List Rw := (List.range n).map (rightF ns st size)
theorem rightsM_len (ns : List Int) (st size : Int) (n : Nat) : (rightsM ns st size n).length = n := by
  unfold rightsM
  rw [List.length_map, List.length_range]
theorem rightsM_nd {ns : List Int} {st size : Int} {n : Nat} (h : n ≤ 26) : ((rightsM ns st size n).map Rw.n).Nodup := by
  unfold rightsM
  rw [List.map_map]
  refine List.pairwise_map.mpr (List.Pairwise.imp_of_mem (fun {a b} ha hb hab e => ?_) List.nodup_range)
  have ha' := List.mem_range.mp ha
  have hb' := List.mem_range.mp hb
  exact hab (nameS_inj (by omega) (by omega) e)
theorem rightsM_pts {ns : List Int} {st : Int} {size n : Nat} {w : Rw} (hs : 1 ≤ size) (h : w ∈ rightsM ns st size n) : w.p < size := by
  obtain ⟨k, _, rfl⟩ := List.mem_map.mp h
  show (cell ns (st + 3 * (k : Int)) % (size : Int)).toNat < size
  have := Int.emod_lt_of_pos (cell ns (st + 3 * (k : Int))) (show (0 : Int) < (size : Int) by omega)
  omega
theorem rightsM_am {ns : List Int} {st size : Int} {n : Nat} {w : Rw} (h : w ∈ rightsM ns st size n) : 0 ≤ w.a ∧ w.a ≤ 1000000 := by
  obtain ⟨k, _, rfl⟩ := List.mem_map.mp h
  exact amtF_ok _
theorem rightsM_dt {ns : List Int} {st size : Int} {n : Nat} {w : Rw} (h : w ∈ rightsM ns st size n) : 0 ≤ w.d ∧ w.d ≤ 9999 := by
  obtain ⟨k, _, rfl⟩ := List.mem_map.mp h
  exact datF_ok _
theorem nameS_ok (cl : Int) (k : Nat) : PyData.strOk (nameS cl k) = true := by
  unfold PyData.strOk
  rw [← Array.all_toList]
  refine List.all_eq_true.mpr fun x hx => decide_eq_true ?_
  have := nameL_az (cl := cl) (k := k) (c := x) hx
  omega
theorem rightsM_ok {ns : List Int} {st size : Int} {n : Nat} {w : Rw} (h : w ∈ rightsM ns st size n) : PyData.strOk w.n = true := by
  obtain ⟨k, _, rfl⟩ := List.mem_map.mp h
  exact nameS_ok _ _
section
variable {K : PySem.W.Frag} {σ : L2.St} {H : Hp} {Q : VK} {D : Ends} {te te' : TE} {b : Bool}
theorem k_ifelse {i : Nat} {v : V} (h1 : b = true → ∀ Q : VK, Q v H → te σ H Q) (h2 : b = false → ∀ Q : VK, Q v H → te' σ H Q) (k : D.nx (σ.set i (some v)) H) : kIf (tAsg te (gName i)) (tAsg te' (gName i)) D σ b H := by
  cases b with
  | true => exact h1 rfl _ k
  | false => exact h2 rfl _ k
end
/-! ### a right taken out of a list -/
def encF (w : Rw) : PyData := .tuple [.str w.n, .int w.p, .int w.a, .int w.d]
theorem encF_plain (w : Rw) : (encF w).plain = true := by
  unfold encF
  simp [PyData.plain, PyData.plainAll]
theorem encF_depth (w : Rw) : (encF w).depth ≤ 8 := by
  unfold encF
  simp [PyData.depth, PyData.depthAll]
theorem encF_all : ∀ R : List Rw, PyData.plainAll (R.map encF) = true
  | [] => by simp [PyData.plainAll]
  | w :: R => by
    rw [List.map_cons]
    simp only [PyData.plainAll, encF_plain w, encF_all R, Bool.and_self]
theorem encF_eqv (x w : Rw) : PyData.eqv (encF x) (encF w) = decide (x = w) := by
  unfold encF
  by_cases h : x = w
  · subst h
    rw [decide_eq_true rfl]
    simp [PyData.eqv, PyData.eqvAll]
  · rw [decide_eq_false h]
    cases x with
    | mk n p a d =>
      cases w with
      | mk n' p' a' d' =>
        simp only [PyData.eqv, PyData.eqvAll]
        by_cases h1 : n = n'
        · subst h1
          by_cases h2 : p = p'
          · subst h2
            by_cases h3 : a = a'
            · subst h3
              have h4 : ¬ d = d' := fun e => h (by rw [e])
              simp [h4]
            · simp [h3]
          · have : ¬ ((p : Int) = (p' : Int)) := by omega
            simp [this]
        · simp [h1]
theorem encF_place : ∀ {R : List Rw} {w : Rw}, (R.map Rw.n).Nodup → w ∈ R → ∃ j, PySem.SeqAt.dataPlace (R.map encF) (encF w) = some j ∧ R.eraseIdx j = dropR Rw.n R w.n
  | [], _, _, h => by cases h
  | x :: R, w, nd, h => by
    have nd' := List.nodup_cons.mp nd
    unfold PySem.SeqAt.dataPlace
    rw [List.map_cons, List.findIdx?_cons, encF_eqv]
    by_cases e : x = w
    · subst e
      refine ⟨0, by rw [decide_eq_true rfl]; rfl, ?_⟩
      unfold dropR
      rw [List.eraseIdx_cons_zero, List.filter_cons, if_neg (by simp)]
      refine (List.filter_eq_self.mpr fun y hy => ?_).symm
      refine decide_eq_true fun z => nd'.1 ?_
      rw [← z]
      exact List.mem_map.mpr ⟨y, hy, rfl⟩
    · have hw : w ∈ R := (List.mem_cons.mp h).elim (fun z => absurd z.symm e) id
      obtain ⟨j, h1, h2⟩ := encF_place nd'.2 hw
      refine ⟨j + 1, ?_, ?_⟩
      · rw [decide_eq_false e]
        unfold PySem.SeqAt.dataPlace at h1
        rw [h1]
        rfl
      · have en : x.n ≠ w.n := fun z => nd'.1 (by rw [z]; exact List.mem_map.mpr ⟨w, hw, rfl⟩)
        unfold dropR at h2 ⊢
        rw [List.eraseIdx_cons_succ, h2, List.filter_cons, if_pos (decide_eq_true en)]
theorem paired_erase {α β : Type} {F : α → β → Prop} : ∀ {xs : List α} {ys : List β}, Paired F xs ys → ∀ j, Paired F (xs.eraseIdx j) (ys.eraseIdx j)
  | _, _, .nil, _ => .nil
  | _, _, .cons _ t, 0 => t
  | _, _, .cons r t, j + 1 => .cons r (paired_erase t j)
theorem dpAll_rts {K : PySem.W.Frag} {H : Hp} : ∀ {xs : List V} {R : List Rw}, Paired (RwF H) xs R → DpAll K H xs (R.map encF)
  | _, _, .nil => .nil
  | _, _, .cons r t => by
    obtain ⟨t', e, h⟩ := r
    subst e
    exact .cons (.tup (SqT.of h) (.cons (.str _) (.cons (.int _) (.cons (.int _) (.cons (.int _) .nil))))) (dpAll_rts t)
theorem k_removeR {K : PySem.W.Frag} {H : Hp} {Q : VK} {p t : Addr} {R : List Rw} {w : Rw} (A : RtsAt H p R) (nd : (R.map Rw.n).Nodup) (hw : w ∈ R) (ht : H t = some (.tup [.str w.n, nV w.p, .int w.a, .int w.d])) (q : ∀ H', But [p] H H' → TupE H H' → RtsAt H' p (dropR Rw.n R w.n) → Q .non H') : rRemoveD K (.ref p) [.ref t] H Q := by
  obtain ⟨xs, hp, pr⟩ := A.ex
  obtain ⟨j, hj, he⟩ := encF_place nd hw
  refine ⟨p, xs, .ref t, encF w, R.map encF, j, rfl, rfl, hp, dpAll_rts pr, .tup (SqT.of ht) (.cons (.str _) (.cons (.int _) (.cons (.int _) (.cons (.int _) .nil)))), encF_all R, encF_plain w, encF_depth w, hj, ?_⟩
  have tu : TupE H (upd H p (.lst (xs.eraseIdx j))) := But.tupL but_upd hp
  refine q _ but_upd tu ⟨_, upd_same, ?_⟩
  rw [← he]
  exact paired_erase (pr.mono fun v w q => RwF_mono _ _ v w tu q) j
section
variable {σ : L2.St} {H : Hp} {D : Ends} {s1 s2 : TS} {b : Bool}
/-- both ways on with what is told by P -/
theorem k_ifP (P : L2.St → Hp → Prop) (tail : ∀ σ' H', P σ' H' → D.nx σ' H') (h1 : b = true → ∀ N : L2.St → Hp → Prop, (∀ σ' H', P σ' H' → N σ' H') → s1 { D with nx := N } σ H) (h2 : b = false → ∀ N : L2.St → Hp → Prop, (∀ σ' H', P σ' H' → N σ' H') → s2 { D with nx := N } σ H) : kIf s1 s2 D σ b H := by
  cases b with
  | true => exact h1 rfl _ tail
  | false => exact h2 rfl _ tail
theorem k_andIfP {u : TT} {σ2 : L2.St} (P : L2.St → Hp → Prop) (tail : ∀ σ' H', P σ' H' → D.nx σ' H') (h1 : b = true → ∀ N : L2.St → Hp → Prop, (∀ σ' H', P σ' H' → N σ' H') → u σ H (kIf s1 s2 { D with nx := N } σ2)) (h2 : b = false → ∀ N : L2.St → Hp → Prop, (∀ σ' H', P σ' H' → N σ' H') → kIf s1 s2 { D with nx := N } σ2 false H) : kAnd u σ (kIf s1 s2 D σ2) b H := by
  cases b with
  | true => exact h1 rfl _ tail
  | false => exact h2 rfl _ tail
end
theorem cutV_but {xs : List V} (h : 0 < xs.length) : cutV xs none (some (-1)) = xs.take (xs.length - 1) := by
  unfold cutV
  have e : HT.sIx xs.length xs.length (some (-1)) = xs.length - 1 := by
    show (if (-1 : Int) < 0 then ((-1 : Int) + (xs.length : Int)).toNat else min (-1 : Int).toNat xs.length) = _
    rw [if_pos (by decide)]
    omega
  rw [e, HT.sIx_none, Nat.sub_zero, List.drop_zero]
theorem cutV_to2 {xs : List V} {p : Nat} (h : p ≤ xs.length) : cutV xs none (some (p : Int)) = xs.take p := by
  unfold cutV
  rw [HT.sIx_none, HT.sIx_nat, Nat.min_eq_left h]
  show (xs.drop 0).take (p - 0) = _
  rw [List.drop_zero, Nat.sub_zero]
theorem paired_unmap {α β γ : Type} {F : α → γ → Prop} {f : β → γ} : ∀ {xs : List α} {ys : List β}, Paired F xs (ys.map f) → Paired (fun a b => F a (f b)) xs ys
  | _, [], h => by
    cases h
    exact .nil
  | _, y :: ys, h => by
    cases h with
    | cons r t => exact .cons r (paired_unmap t)
theorem paired_take {α β : Type} {F : α → β → Prop} : ∀ {xs : List α} {ys : List β}, Paired F xs ys → ∀ j, Paired F (xs.take j) (ys.take j)
  | _, _, _, 0 => .nil
  | _, _, .nil, _ + 1 => .nil
  | _, _, .cons r t, j + 1 => .cons r (paired_take t j)
theorem k_slTf {K : PySem.W.Frag} {H : Hp} {Q : VK} {t : Addr} {x : V} {xs : List V} (ht : H t = some (.tup (x :: xs))) (q : ∀ p H', H p = none → Ext H H' → H' p = some (.tup xs) → Q (.ref p) H') : rSlT K (.ref t) (some 1) none H Q := by
  have e1 : HT.sIx (x :: xs).length 0 (some 1) = 1 := by
    show min 1 (x :: xs).length = 1
    rw [List.length_cons]
    omega
  refine ⟨t, x :: xs, rfl, SqT.of ht, fun z => ?_, fun p hp => ?_⟩
  · rw [e1] at z
    exact absurd z.1 (by decide)
  · have e2 : cutV (x :: xs) (some 1) none = xs := by
      unfold cutV
      rw [e1, HT.sIx_none]
      show xs.take ((x :: xs).length - 1) = xs
      rw [List.length_cons]
      exact List.take_of_length_le (by omega)
    rw [e2]
    exact q p _ hp (ext_new hp) upd_same
theorem encF_laid {w : Rw} (h : PyData.strOk w.n = true) : laid (encF w) 1 := by
  unfold encF
  exact ⟨by simp [PyData.canLay0, PyData.canLayAll0, h], by simp [PyData.depth, PyData.depthAll]⟩
theorem laid_rts {R : List Rw} (h : ∀ w ∈ R, PyData.strOk w.n = true) : laid (.list (R.map encF)) 2 := laid_list fun d hd => by
  obtain ⟨w, hw, rfl⟩ := List.mem_map.mp hd
  exact encF_laid (h w hw)
theorem dp_row {K : PySem.W.Frag} {H : Hp} {t : Addr} {w : Rw} (h : H t = some (.tup [.str w.n, nV w.p, .int w.a, .int w.d])) : Dp K H (.ref t) (encF w) := .tup (SqT.of h) (.cons (.str _) (.cons (.int _) (.cons (.int _) (.cons (.int _) .nil))))
theorem k_tyR {K : PySem.W.Frag} {H : Hp} {p : Addr} {R : List Rw} {F : V → Hp → Prop} (A : RtsAt H p R) (q : F (.ref p) H) : kTy K "list" F (.ref p) H := by
  obtain ⟨xs, hp, pr⟩ := A.ex
  exact k_tyL hp q
theorem k_itlR {K : PySem.W.Frag} {H : Hp} {p : Addr} {R : List Rw} {F : It → Hp → Prop} (A : RtsAt H p R) (q : F (Itl K p) H) : kItl K F (.ref p) H := by
  obtain ⟨xs, hp, pr⟩ := A.ex
  exact k_itl (SqL.of hp) q
theorem k_catT {K : PySem.W.Frag} {H : Hp} {Q : VK} {a b : Addr} {x y : V} {xs ys : List V} (h1 : H a = some (.tup (x :: xs))) (h2 : H b = some (.tup (y :: ys))) (hz : xs.length + ys.length ≤ 1000) (q : ∀ p H', H p = none → Ext H H' → H' p = some (.tup ((x :: xs) ++ (y :: ys))) → Q (.ref p) H') : rCatT K (.ref a) (.ref b) H Q :=
  ⟨a, b, x :: xs, y :: ys, rfl, rfl, SqT.of h1, SqT.of h2, by simp, sz_le (by rw [List.length_cons, List.length_cons]; omega), (fun z => by cases z), fun _ p hp => q p _ hp (ext_new hp) upd_same⟩
def sp_l_rights (c : Cs) : Sp := fun vs H Q E => ∃ (a : Addr) (ns : List Int) (st size : Int) (n : Nat), vs = [.ref a, .int st, .int n, .int size] ∧ SqL c.K H a (ns.map V.int) ∧ 0 ≤ st ∧ 1 ≤ size ∧ n ≤ 1000 ∧
  ∀ p H', H p = none → Ext H H' → RtsAt H' p (rightsM ns st size n) → Q (.ref p) H'
def sp_l_aged (c : Cs) : Sp := fun vs H Q E => ∃ p R, vs = [.ref p] ∧ RtsAt H p R ∧ (R.map Rw.n).Nodup ∧ R.length ≤ 1000 ∧ ∀ q H', H q = none → Ext H H' → RtsAt H' q (agedR R) → Q (.ref q) H'
def sp_l_words (c : Cs) : Sp := fun vs H Q E => ∃ (a b : Addr) (xs ys : List Str), vs = [.ref a, .ref b] ∧ H a = some (.lst (xs.map V.str)) ∧ SqL c.K H b (ys.map V.str) ∧ ys.length ≤ 1000 ∧ Q (.bl (decide (xs = ys))) H
def sp_l_right_is (c : Cs) : Sp := fun vs H Q E => ∃ (t t' : Addr) (w : Rw), vs = [.ref t, .ref t'] ∧ H t = some (.tup [nV w.p, .int w.a, .int w.d]) ∧ H t' = some (.tup [.str w.n, nV w.p, .int w.a, .int w.d]) ∧ Q (.bl true) H
def sp_l_book (c : Cs) : Sp := fun vs H Q E => ∃ (b p : Addr) (B : List Nat) (R : List Rw), vs = [.ref b, .ref p] ∧ SqL c.K H b (belV B) ∧ Riv B ∧ RtsAt H p R ∧ (R.map Rw.n).Nodup ∧ (∀ w ∈ R, w.p ≤ B.length) ∧ R.length ≤ 900 ∧
  ∀ x r l d H', H x = none → H r = none → H l = none → H d = none → Ext H H' → BokAt c H' x r l B d R → Q (.ref x) H'
end Rv
local macro_rules | `(tactic| lcg_src) => `(tactic| first
  | assumption
  | (with_reducible exact Rv.lk_here)
  | (refine (Rv.lk_past (by decide +kernel)).trans ?_; lcg_src)
  | (with_unfolding_all exact rfl))
local macro_rules | `(tactic| keq_hits) => `(tactic| first
  | assumption
  | ((with_reducible apply Rv.Ext.hl); (focus assumption); (focus keq_hits))
  | ((with_reducible apply Rv.But.hl); (focus assumption); (focus keq_hits); (focus keq_hits))
  | ((with_reducible apply Rv.Ac.hl); (focus assumption); (focus keq_hits))
  | ((with_reducible apply L2.SqL.of); (focus assumption))
  | ((with_reducible apply Rv.Ext.sq); (focus assumption); (focus keq_hits))
  | ((with_reducible apply Rv.But.sq); (focus assumption); (focus keq_hits); (focus keq_hits))
  | ((with_reducible apply Rv.Ac.sq); (focus assumption); (focus keq_hits))
  | ((with_reducible apply L2.SqT.of); (focus assumption))
  | ((with_reducible apply Rv.Ext.st); (focus assumption); (focus keq_hits))
  | ((with_reducible apply Rv.But.st); (focus assumption); (focus keq_hits); (focus keq_hits))
  | ((with_reducible apply Rv.Ac.st); (focus assumption); (focus keq_hits))
  | ((with_reducible apply L2.Rd.of); (focus keq_hits))
  | ((with_reducible apply Rv.RivAt.ext); (focus assumption); (focus keq_hits))
  | ((with_reducible apply Rv.RivAt.but); (focus assumption); (focus keq_hits); (focus keq_hits); (focus keq_hits))
  | ((with_reducible apply Rv.RivAt.ac); (focus assumption); (focus keq_hits))
  | (with_reducible apply Rv.nin_nil)
  | ((with_reducible apply Rv.BokAt.ext); (focus assumption); (focus keq_hits))
  | ((with_reducible apply Rv.DicAt.ne); (focus assumption); (focus assumption); (focus (intro _ z; cases z)))
  | ((with_reducible apply Rv.DicAt.nf); (focus assumption); (focus assumption))
  | ((with_reducible apply Rv.Ext.tup); (focus assumption))
  | ((with_reducible apply Rv.Ac.tup); (focus assumption))
  | ((with_reducible apply Rv.nin_cons); (focus keq_hits); (focus keq_hits))
  | (with_reducible apply Rv.frs_nil)
  | ((with_reducible apply Rv.frs_cons); (focus keq_hits); (focus keq_hits))
  | ((with_reducible apply Ne.symm); (focus assumption))
  | ((with_reducible apply Rv.ne_nf); (focus assumption); (focus assumption))
  | ((with_reducible apply Rv.ne_fn); (focus assumption); (focus assumption))
  | ((with_reducible apply Rv.ne_k1); (focus assumption); (focus assumption); (focus (first | (intro z; cases z; done) | ((with_reducible apply Rv.ins_ne); intro z; cases z; done))))
  | ((with_reducible apply Rv.ne_k2); (focus assumption); (focus assumption); (focus (first | (intro z; cases z; done) | ((with_reducible apply Rv.ins_ne); intro z; cases z; done))))
  | ((with_reducible apply Rv.free2); (focus assumption); (focus assumption))
  | (with_reducible apply Rv.Ac.refl)
  | ((with_reducible apply Rv.Ac.step'); (focus assumption); (focus keq_hits))
  | ((with_reducible apply Rv.Ac.but'); (focus assumption); (focus keq_hits); (focus keq_hits))
  | (with_reducible apply Rv.Ext.refl)
  | ((with_reducible apply Rv.Ac.ext); (focus keq_hits))
  | ((with_reducible apply Rv.sz_le); first | omega | (simp only [List.length_cons, List.length_nil, List.length_map, List.length_append]; omega))
  | ((with_reducible apply Rv.sz_lt); first | omega | (simp only [List.length_cons, List.length_nil, List.length_map, List.length_append]; omega)))
local macro_rules | `(tactic| kln_le) => `(tactic| first
  | assumption
  | ((with_reducible apply Rv.Ext.hl); (focus assumption); (focus kln_le))
  | ((with_reducible apply Rv.But.hl); (focus assumption); (focus kln_le); (focus kln_le))
  | ((with_reducible apply Rv.Ac.hl); (focus assumption); (focus kln_le))
  | ((with_reducible apply L2.SqL.of); (focus assumption))
  | ((with_reducible apply Rv.Ext.sq); (focus assumption); (focus kln_le))
  | ((with_reducible apply Rv.But.sq); (focus assumption); (focus kln_le); (focus kln_le))
  | ((with_reducible apply Rv.Ac.sq); (focus assumption); (focus kln_le))
  | ((with_reducible apply L2.SqT.of); (focus assumption))
  | ((with_reducible apply Rv.Ext.st); (focus assumption); (focus kln_le))
  | ((with_reducible apply Rv.But.st); (focus assumption); (focus kln_le); (focus kln_le))
  | ((with_reducible apply Rv.Ac.st); (focus assumption); (focus kln_le))
  | ((with_reducible apply L2.Rd.of); (focus kln_le))
  | ((with_reducible apply Rv.RivAt.ext); (focus assumption); (focus kln_le))
  | ((with_reducible apply Rv.RivAt.but); (focus assumption); (focus kln_le); (focus kln_le); (focus kln_le))
  | ((with_reducible apply Rv.RivAt.ac); (focus assumption); (focus kln_le))
  | (with_reducible apply Rv.nin_nil)
  | ((with_reducible apply Rv.BokAt.ext); (focus assumption); (focus kln_le))
  | ((with_reducible apply Rv.DicAt.ne); (focus assumption); (focus keq_hits); (focus (intro _ z; cases z)))
  | ((with_reducible apply Rv.DicAt.nf); (focus assumption); (focus keq_hits))
  | ((with_reducible apply Rv.Ext.tup); (focus assumption))
  | ((with_reducible apply Rv.Ac.tup); (focus assumption))
  | ((with_reducible apply Rv.nin_cons); (focus kln_le); (focus kln_le))
  | (with_reducible apply Rv.frs_nil)
  | ((with_reducible apply Rv.frs_cons); (focus kln_le); (focus kln_le))
  | ((with_reducible apply Ne.symm); (focus assumption))
  | ((with_reducible apply Rv.ne_nf); (focus assumption); (focus keq_hits))
  | ((with_reducible apply Rv.ne_fn); (focus assumption); (focus keq_hits))
  | ((with_reducible apply Rv.ne_k1); (focus assumption); (focus keq_hits); (focus (first | (intro z; cases z; done) | ((with_reducible apply Rv.ins_ne); intro z; cases z; done))))
  | ((with_reducible apply Rv.ne_k2); (focus assumption); (focus keq_hits); (focus (first | (intro z; cases z; done) | ((with_reducible apply Rv.ins_ne); intro z; cases z; done))))
  | ((with_reducible apply Rv.free2); (focus assumption); (focus keq_hits))
  | (with_reducible apply Rv.Ac.refl)
  | ((with_reducible apply Rv.Ac.step'); (focus assumption); (focus kln_le))
  | ((with_reducible apply Rv.Ac.but'); (focus assumption); (focus kln_le); (focus kln_le))
  | (with_reducible apply Rv.Ext.refl)
  | ((with_reducible apply Rv.Ac.ext); (focus kln_le))
  | ((with_reducible apply Rv.sz_le); first | omega | (simp only [List.length_cons, List.length_nil, List.length_map, List.length_append]; omega))
  | ((with_reducible apply Rv.sz_lt); first | omega | (simp only [List.length_cons, List.length_nil, List.length_map, List.length_append]; omega)))
local macro_rules | `(tactic| lcg_sub) => `(tactic| first
  | assumption
  | ((with_reducible apply Rv.Ext.hl); (focus assumption); (focus lcg_sub))
  | ((with_reducible apply Rv.But.hl); (focus assumption); (focus lcg_sub); (focus lcg_sub))
  | ((with_reducible apply Rv.Ac.hl); (focus assumption); (focus lcg_sub))
  | ((with_reducible apply L2.SqL.of); (focus assumption))
  | ((with_reducible apply Rv.Ext.sq); (focus assumption); (focus lcg_sub))
  | ((with_reducible apply Rv.But.sq); (focus assumption); (focus lcg_sub); (focus lcg_sub))
  | ((with_reducible apply Rv.Ac.sq); (focus assumption); (focus lcg_sub))
  | ((with_reducible apply L2.SqT.of); (focus assumption))
  | ((with_reducible apply Rv.Ext.st); (focus assumption); (focus lcg_sub))
  | ((with_reducible apply Rv.But.st); (focus assumption); (focus lcg_sub); (focus lcg_sub))
  | ((with_reducible apply Rv.Ac.st); (focus assumption); (focus lcg_sub))
  | ((with_reducible apply L2.Rd.of); (focus lcg_sub))
  | ((with_reducible apply Rv.RivAt.ext); (focus assumption); (focus lcg_sub))
  | ((with_reducible apply Rv.RivAt.but); (focus assumption); (focus lcg_sub); (focus lcg_sub); (focus lcg_sub))
  | ((with_reducible apply Rv.RivAt.ac); (focus assumption); (focus lcg_sub))
  | (with_reducible apply Rv.nin_nil)
  | ((with_reducible apply Rv.BokAt.ext); (focus assumption); (focus lcg_sub))
  | ((with_reducible apply Rv.DicAt.ne); (focus assumption); (focus kln_le); (focus (intro _ z; cases z)))
  | ((with_reducible apply Rv.DicAt.nf); (focus assumption); (focus kln_le))
  | ((with_reducible apply Rv.Ext.tup); (focus assumption))
  | ((with_reducible apply Rv.Ac.tup); (focus assumption))
  | ((with_reducible apply Rv.nin_cons); (focus lcg_sub); (focus lcg_sub))
  | (with_reducible apply Rv.frs_nil)
  | ((with_reducible apply Rv.frs_cons); (focus lcg_sub); (focus lcg_sub))
  | ((with_reducible apply Ne.symm); (focus assumption))
  | ((with_reducible apply Rv.ne_nf); (focus assumption); (focus kln_le))
  | ((with_reducible apply Rv.ne_fn); (focus assumption); (focus kln_le))
  | ((with_reducible apply Rv.ne_k1); (focus assumption); (focus kln_le); (focus (first | (intro z; cases z; done) | ((with_reducible apply Rv.ins_ne); intro z; cases z; done))))
  | ((with_reducible apply Rv.ne_k2); (focus assumption); (focus kln_le); (focus (first | (intro z; cases z; done) | ((with_reducible apply Rv.ins_ne); intro z; cases z; done))))
  | ((with_reducible apply Rv.free2); (focus assumption); (focus kln_le))
  | (with_reducible apply Rv.Ac.refl)
  | ((with_reducible apply Rv.Ac.step'); (focus assumption); (focus lcg_sub))
  | ((with_reducible apply Rv.Ac.but'); (focus assumption); (focus lcg_sub); (focus lcg_sub))
  | (with_reducible apply Rv.Ext.refl)
  | ((with_reducible apply Rv.Ac.ext); (focus lcg_sub))
  | ((with_reducible apply Rv.sz_le); first | omega | (simp only [List.length_cons, List.length_nil, List.length_map, List.length_append]; omega))
  | ((with_reducible apply Rv.sz_lt); first | omega | (simp only [List.length_cons, List.length_nil, List.length_map, List.length_append]; omega)))
local macro_rules | `(tactic| lcg_off) => `(tactic| first
  | (with_reducible apply Rv.r_seq)
  | (with_reducible apply Rv.r_asg)
  | (with_reducible apply Rv.r_op)
  | ((with_reducible apply Rv.r_var); (focus with_unfolding_all rfl))
  | (with_reducible apply Rv.r_c)
  | (with_reducible apply Rv.r_if)
  | (with_reducible apply Rv.r_test)
  | (with_reducible apply Rv.r_fld)
  | (with_reducible apply Rv.r_cons)
  | (with_reducible apply Rv.r_nil)
  | (with_reducible apply Rv.r_ret)
  | (with_reducible apply Rv.r_drop)
  | (with_reducible apply Rv.r_meth)
  | (with_reducible apply Rv.r_fn)
  | (with_reducible apply Rv.r_CB)
  | (with_reducible apply Rv.r_BM)
  | (with_reducible apply Rv.r_BM0)
  | (with_reducible apply Rv.k_bl)
  | (with_reducible apply Rv.r_not)
  | (with_reducible apply Rv.r_and)
  | (with_reducible apply Rv.r_or)
  | (with_reducible apply Rv.k_andT)
  | (with_reducible apply Rv.k_andF)
  | (with_reducible apply Rv.k_orT)
  | (with_reducible apply Rv.k_orF)
  | (with_reducible apply Rv.r_tB)
  | (with_reducible apply Rv.r_chain)
  | (with_reducible apply Rv.r_un)
  | (with_reducible apply Rv.r_tup)
  | (with_reducible apply Rv.r_lst)
  | (with_reducible apply Rv.r_andV)
  | (with_reducible apply Rv.r_orV)
  | (with_reducible apply Rv.r_notV)
  | (with_reducible apply Rv.r_ifE)
  | (with_reducible apply Rv.k_notV)
  | (with_reducible apply Rv.k_andVT)
  | (with_reducible apply Rv.k_andVF)
  | (with_reducible apply Rv.k_orVT)
  | (with_reducible apply Rv.k_orVF)
  | (with_reducible apply Rv.k_addI)
  | (with_reducible apply Rv.k_subI)
  | ((with_reducible apply Rv.k_mulI); (focus (unfold L2.CMul; omega)))
  | ((with_reducible apply Rv.k_divI); (focus (unfold L2.CDiv; omega)))
  | ((with_reducible apply Rv.k_modI); (focus omega))
  | ((with_reducible apply Rv.k_powI); (focus (unfold L2.CPow; decide)))
  | (with_reducible apply Rv.k_negI)
  | (with_reducible apply Rv.k_ltI)
  | (with_reducible apply Rv.k_leI)
  | (with_reducible apply Rv.k_gtI)
  | (with_reducible apply Rv.k_geI)
  | (with_reducible apply Rv.k_eqI)
  | (with_reducible apply Rv.k_neI)
  | (with_reducible apply Rv.k_eqS)
  | (with_reducible apply Rv.k_neS)
  | (with_reducible apply Rv.k_isNN)
  | (with_reducible apply Rv.k_isNI)
  | (with_reducible apply Rv.k_isNR)
  | (with_reducible apply Rv.k_notNN)
  | (with_reducible apply Rv.k_notNI)
  | (with_reducible apply Rv.k_notNR)
  | ((with_reducible apply Rv.k_tyL); (focus lcg_sub))
  | ((with_reducible apply Rv.k_ixT); (focus lcg_sub); (focus with_unfolding_all rfl))
  | ((with_reducible apply Rv.k_ixL); (focus lcg_sub); (focus with_unfolding_all rfl))
  | ((with_reducible apply Rv.k_lenL); (focus lcg_sub))
  | ((with_reducible apply Rv.k_lenU); (focus lcg_sub))
  | ((with_reducible apply Rv.k_tup); (focus lcg_sub))
  | ((with_reducible apply Rv.k_lst); (focus lcg_sub))
  | ((with_reducible apply Rv.k_list); (focus lcg_sub))
  | ((with_reducible apply Rv.k_append); (focus lcg_sub); (focus lcg_sub))
  | ((with_reducible apply Rv.k_cat); (focus lcg_sub); (focus lcg_sub); (focus lcg_sub))
  | ((with_reducible apply Rv.k_clear); (focus lcg_sub))
  | (with_reducible apply Rv.k_int1)
  | (with_reducible apply Rv.k_max2)
  | (with_reducible apply Rv.k_min2)
  | (with_reducible apply Rv.k_str)
  | (with_reducible apply Rv.k_part)
  | (with_reducible apply Rv.r_M1)
  | (with_reducible apply Rv.r_dget)
  | (with_reducible apply Rv.r_din)
  | (with_reducible apply Rv.r_dnotin)
  | (with_reducible apply Rv.r_dget2)
  | (with_reducible apply Rv.r_sl)
  | (with_reducible apply Rv.r_nopart)
  | (with_reducible apply Rv.r_part)
  | (with_reducible apply Rv.r_for)
  | (with_reducible apply Rv.r_lc)
  | (with_reducible apply Rv.r_yes)
  | (with_reducible apply Rv.r_iList)
  | (with_reducible apply Rv.r_iRng1)
  | (with_reducible apply Rv.r_iRng2)
  | (with_reducible apply Rv.r_iZip)
  | (with_reducible apply Rv.r_iStr)
  | (with_reducible apply Rv.r_iKeys)
  | (with_reducible apply Rv.r_lstRg)
  | ((with_reducible apply Rv.k_itl); (focus lcg_sub))
  | ((with_reducible apply Rv.k_zip); (focus lcg_sub); (focus lcg_sub))
  | ((with_reducible apply Rv.k_rng1); (focus omega))
  | ((with_reducible apply Rv.k_rng2); (focus omega))
  | (with_reducible apply Rv.k_its)
  | (with_reducible apply Rv.r_retN)
  | (with_reducible apply Rv.r_next)
  | (with_reducible apply Rv.r_setF)
  | (with_reducible apply Rv.r_dput)
  | (with_reducible apply Rv.r_setI)
  | (with_reducible apply Rv.r_raise)
  | (with_reducible apply Rv.r_wF)
  | (with_reducible apply Rv.k_ifTT)
  | (with_reducible apply Rv.k_ifFF)
  | (with_reducible apply Rv.k_ifNT)
  | (with_reducible apply Rv.k_ifNF)
  | (with_reducible apply Rv.k_andNT)
  | (with_reducible apply Rv.k_andNF)
  | (with_reducible apply Rv.k_orNT)
  | (with_reducible apply Rv.k_orNF)
  | (with_reducible apply Rv.k_andVNT)
  | (with_reducible apply Rv.k_andVNF)
  | (with_reducible apply Rv.k_orVNT)
  | (with_reducible apply Rv.k_orVNF)
  | (with_reducible apply Rv.k_isB_ii)
  | (with_reducible apply Rv.k_isB_ib)
  | (with_reducible apply Rv.k_isB_bi)
  | (with_reducible apply Rv.k_isB_bb)
  | (with_reducible apply Rv.k_isB_ni)
  | (with_reducible apply Rv.k_isB_ss)
  | ((with_reducible apply Rv.k_isB_ll); (focus lcg_sub))
  | ((with_reducible apply Rv.k_isB_tt); (focus lcg_sub))
  | (with_reducible apply Rv.r_mk)
  | (with_reducible apply Rv.r_rg1)
  | (with_reducible apply Rv.k_rg1)
  | (with_reducible apply Rv.r_dpop1)
  | (with_reducible apply Rv.k_ifNNT)
  | (with_reducible apply Rv.k_ifNNF)
  | (with_reducible apply Rv.r_dropE)
  | (with_reducible apply Rv.r_dropR)
  | (with_reducible apply Rv.r_dropN)
  | (with_reducible apply Rv.r_dropM))
namespace Rv
open PySem L2
-- l_rights: 0 script 1 start 2 count 3 size 4 names 5 rights 6 k 7 amount 8 date
def t_l_rights (c : Cs) (E : XK) : TS :=
  (tSeq (tAsg (tFn (sp_l_names c) (wF E) (tCons (tFn (sp_l_cell_at c) (wF E) (tCons (tVar 0) (tCons (tC (.int 1)) tNil))) (tCons (tVar 2) tNil))) (gName 4))
  (tSeq (tAsg (tLst tNil) (gName 5))
  (tSeq (tFor (iRng1 (tCons (tVar 2) tNil)) (gName 6)
  (tSeq (tAsg (tFn (sp_l_cell_at c) (wF E) (tCons (tVar 0) (tCons (tOp rAddI (tOp rAddI (tVar 1) (tOp rMulI (tC (.int 3)) (tVar 6))) (tC (.int 1))) tNil))) (gName 7))
  (tSeq (tAsg (tFn (sp_l_cell_at c) (wF E) (tCons (tVar 0) (tCons (tOp rAddI (tOp rAddI (tVar 1) (tOp rMulI (tC (.int 3)) (tVar 6))) (tC (.int 2))) tNil))) (gName 8))
  (tSeq (tIfS (tTest (tOp rEq (tOp rModI (tVar 7) (tC (.int 7))) (tC (.int 6)))) (tAsg (tOp rModI (tOp rDivI (tVar 7) (tC (.int 7))) (tC (.int 1000001))) (gName 7)) (tAsg (tOp rModI (tOp rDivI (tVar 7) (tC (.int 7))) (tC (.int 90))) (gName 7)))
  (tSeq (tIfS (tTest (tOp rEq (tOp rModI (tVar 8) (tC (.int 5))) (tC (.int 4)))) (tAsg (tOp rModI (tOp rDivI (tVar 8) (tC (.int 5))) (tC (.int 10000))) (gName 8)) (tAsg (tOp rModI (tOp rDivI (tVar 8) (tC (.int 5))) (tC (.int 3))) (gName 8)))
  (tDrop (tBM c.K "list" rAppend (tVar 5) (tCons (tTup (tCons (tOp (rIxL c.K) (tVar 4) (tVar 6)) (tCons (tOp rModI (tFn (sp_l_cell_at c) (wF E) (tCons (tVar 0) (tCons (tOp rAddI (tVar 1) (tOp rMulI (tC (.int 3)) (tVar 6))) tNil))) (tVar 3)) (tCons (tVar 7) (tCons (tVar 8) tNil))))) tNil))))))))
  (tRet (tVar 5)))))
-- l_aged: 0 rights 1 row 2 right
def t_l_aged (c : Cs) (E : XK) : TS :=
  (tRet (tLc (iList c.K (tCB (rSortedD c.K) (tCons (tLc (iList c.K (tVar 0)) (gName 2) tYes (tTup (tCons (tTup (tCons (tOp (rIxT c.K) (tVar 2) (tC (.int 3))) (tCons (tOp (rIxT c.K) (tVar 2) (tC (.int 0))) tNil))) (tCons (tVar 2) tNil))) [2]) tNil))) (gName 1) tYes (tOp (rIxT c.K) (tVar 1) (tC (.int 1))) [1]))
-- l_words: 0 found 1 due 2 k
def t_l_words (c : Cs) (E : XK) : TS :=
  (tSeq (tIfS (tOr (tNot (tB (tCB (rIsB c.K "list") (tCons (tVar 0) (tCons (tC (.ty "list")) tNil))))) (tTest (tOp rNe (tCB (rLenS c.K) (tCons (tVar 0) tNil)) (tCB (rLenS c.K) (tCons (tVar 1) tNil))))) (tRet (tC (.bl false))) tNext)
  (tSeq (tFor (iRng1 (tCons (tCB (rLenS c.K) (tCons (tVar 1) tNil)) tNil)) (gName 2)
  (tIfS (tOr (tNot (tB (tCB (rIsB c.K "str") (tCons (tOp (rIxL c.K) (tVar 0) (tVar 2)) (tCons (tC (.ty "str")) tNil))))) (tTest (tOp rNe (tOp (rIxL c.K) (tVar 0) (tVar 2)) (tOp (rIxL c.K) (tVar 1) (tVar 2))))) (tRet (tC (.bl false))) tNext))
  (tRet (tC (.bl true)))))
-- l_right_is: 0 found 1 due 2 k
def t_l_right_is (c : Cs) (E : XK) : TS :=
  (tSeq (tIfS (tOr (tNot (tB (tCB (rIsB c.K "tuple") (tCons (tVar 0) (tCons (tC (.ty "tuple")) tNil))))) (tTest (tOp rNe (tCB (rLenS c.K) (tCons (tVar 0) tNil)) (tC (.int 3))))) (tRet (tC (.bl false))) tNext)
  (tSeq (tFor (iRng1 (tCons (tC (.int 3)) tNil)) (gName 2)
  (tIfS (tOr (tNot (tB (tFn (sp_l_whole c) (wF E) (tCons (tOp (rIxT c.K) (tVar 0) (tVar 2)) tNil)))) (tTest (tOp rNe (tOp (rIxT c.K) (tVar 0) (tVar 2)) (tOp (rIxT c.K) (tVar 1) (tOp rAddI (tVar 2) (tC (.int 1))))))) (tRet (tC (.bl false))) tNext))
  (tRet (tC (.bl true)))))
-- l_book: 0 below 1 rights 2 book 3 right
def t_l_book (c : Cs) (E : XK) : TS :=
  (tSeq (tAsg (tMakeS c.book (sp_Book_init c) (wF E) (tCons (tMakeS c.river (sp_River_init c) (wF E) (tCons (tCB (rListS c.K) (tCons (tVar 0) tNil)) tNil)) tNil)) (gName 2))
  (tSeq (tFor (iList c.K (tVar 1)) (gName 3)
  (tDrop (tMethS c.book "grant" (sp_Book_grant c) (wF E) (tVar 2) (tCons (tOp (rIxT c.K) (tVar 3) (tC (.int 0))) (tCons (tOp (rIxT c.K) (tVar 3) (tC (.int 1))) (tCons (tOp (rIxT c.K) (tVar 3) (tC (.int 2))) (tCons (tOp (rIxT c.K) (tVar 3) (tC (.int 3))) tNil)))))))
  (tRet (tVar 2))))
section
variable {c : Cs}
theorem pure_l_rights (vs : List V) (H : Hp) (Q : VK) (E : XK) (h : sp_l_rights c vs H Q E) : t_l_rights c E { nx := fun _ H' => Q .non H', rt := Q } (start ["script", "start", "count", "size", "names", "rights", "k", "amount", "date"] vs) H := by
  obtain ⟨a, ns, st, size, n, rfl, hs, h0, h1, hn, k⟩ := h
  unfold t_l_rights
  repeat lcg_off
  refine ⟨a, ns, _, rfl, by lcg_sub, by omega, ?_⟩
  repeat lcg_off
  refine ⟨_, n, rfl, hn, ?_⟩
  intro nm H1 hnm e1 hnl
  repeat lcg_off
  intro p H2 hp e2 h2
  repeat lcg_off
  rw [Int.toNat_natCast]
  refine k_forR (fun i σ H' => (∃ v1 v2 v3, σ = [some (.ref a), some (.int st), some (.int n), some (.int size), some (.ref nm), some (.ref p), v1, v2, v3]) ∧ But [p] H2 H' ∧ TupE H2 H' ∧ RtsAt H' p (rightsM ns st size i)) ⟨⟨_, _, _, rfl⟩, (Ext.refl _).but, TupE.refl _, ⟨[], h2, .nil⟩⟩ ?_ ?_
  · rintro i σ H3 hi ⟨⟨v1, v2, v3, rfl⟩, b3, t3, ⟨xs, h3, p3⟩⟩
    rw [Int.zero_add]
    show tSeq _ _ _ [some (.ref a), some (.int st), some (.int n), some (.int size), some (.ref nm), some (.ref p), some (.int (i : Int)), v2, v3] _
    have ac3 : Ac H1 H3 := e2.ac.but b3 (by lcg_sub)
    have hnl3 : H3 nm = some (.lst ((List.range n).map fun k => .str (nameS (cell ns 1) k))) := ac3.g _ _ hnl
    have hs3 : SqL c.K H3 a (ns.map V.int) := ac3.sq (e1.sq hs)
    have hxl := paired_len p3
    rw [rightsM_len] at hxl
    repeat lcg_off
    refine ⟨a, ns, _, rfl, by lcg_sub, by omega, ?_⟩
    repeat lcg_off
    refine ⟨a, ns, _, rfl, by lcg_sub, by omega, ?_⟩
    repeat lcg_off
    generalize hca : cell ns (st + 3 * (i : Int) + 1) = ca
    generalize hcd : cell ns (st + 3 * (i : Int) + 2) = cd
    refine k_ifelse (v := .int (amtF ca)) (fun hb Q q => ?_) (fun hb Q q => ?_) ?_
    · repeat lcg_off
      unfold amtF at q
      rw [if_pos (of_decide_eq_true hb)] at q
      exact q
    · repeat lcg_off
      unfold amtF at q
      rw [if_neg (of_decide_eq_false hb)] at q
      exact q
    repeat lcg_off
    refine k_ifelse (v := .int (datF cd)) (fun hb Q q => ?_) (fun hb Q q => ?_) ?_
    · repeat lcg_off
      unfold datF at q
      rw [if_pos (of_decide_eq_true hb)] at q
      exact q
    · repeat lcg_off
      unfold datF at q
      rw [if_neg (of_decide_eq_false hb)] at q
      exact q
    repeat lcg_off
    refine k_ixL (v := .str (nameS (cell ns 1) i)) (by lcg_sub) (atI_nat ?_) ?_
    · rw [List.getElem?_map, List.getElem?_range (by omega)]
      rfl
    repeat lcg_off
    refine ⟨a, ns, _, rfl, by lcg_sub, by omega, ?_⟩
    repeat lcg_off
    intro t H4 ht e4 h4
    repeat lcg_off
    intro H5 b5 h5
    have t5 : TupE H4 H5 := But.tupL b5 (e4.g _ _ h3)
    repeat lcg_off
    refine ⟨⟨_, _, _, rfl⟩, (b3.step e4).trans b5, (t3.trans e4.tup).trans t5, ⟨xs ++ [.ref t], h5, ?_⟩⟩
    have hm : rightsM ns st size (i + 1) = rightsM ns st size i ++ [rightF ns st size i] := by
      unfold rightsM
      rw [List.range_succ, List.map_append]
      rfl
    rw [hm]
    refine Paired.snoc (p3.mono fun v w q => RwF_mono _ _ v w (e4.tup.trans t5) q) ⟨t, rfl, t5.g _ _ ?_⟩
    rw [h4]
    unfold rightF
    rw [hca, hcd]
    show some (HO.tup [_, V.int _, _, _]) = some (HO.tup [_, V.int _, _, _])
    rw [Int.toNat_of_nonneg (Int.emod_nonneg _ (by omega))]
  · rintro σ H3 ⟨⟨v1, v2, v3, rfl⟩, b3, t3, A3⟩
    repeat lcg_off
    have ac3 : Ac H1 H3 := e2.ac.but b3 (by lcg_sub)
    exact k p H3 (e1.free hp) ((e1.ac).trans ac3).ext A3
theorem pure_l_aged (vs : List V) (H : Hp) (Q : VK) (E : XK) (h : sp_l_aged c vs H Q E) : t_l_aged c E { nx := fun _ H' => Q .non H', rt := Q } (start ["rights", "row", "right"] vs) H := by
  obtain ⟨p, R, rfl, ⟨xs, hp, pr⟩, nd, hl, k⟩ := h
  have hxl := paired_len pr
  unfold t_l_aged
  repeat lcg_off
  refine k_lcP (Ro := fun H' v (w : Rw) => ∃ t k' r, v = .ref t ∧ H' t = some (.tup [.ref k', .ref r]) ∧ H' k' = some (.tup [.int w.d, .str w.n]) ∧ H' r = some (.tup [.str w.n, nV w.p, .int w.a, .int w.d])) (fun _ => true) (fun w => w) (SqL.of hp) pr (fun _ _ v w e ⟨t, k', r, q1, q2, q3, q4⟩ => ⟨t, k', r, q1, e.g _ _ q2, e.g _ _ q3, e.g _ _ q4⟩) (fun x => rfl) (by omega) (fun v w hw hv H5 ac QB q => by (repeat lcg_off); exact q H5 (Ext.refl _)) (fun v w hw hv _ H1 ac Q1 q => ?_) (fun D ws H1 hD e1 h1 pr1 => ?_)
  · obtain ⟨t, rfl, ht⟩ := hv
    have ht1 : H1 t = some (.tup [.str w.n, nV w.p, .int w.a, .int w.d]) := ac.g _ _ ht
    repeat lcg_off
    intro k' H2 hk' e2 h2
    repeat lcg_off
    intro t2 H3 ht2 e3 h3
    exact q _ H3 (e2.trans e3) ⟨t2, k', t, rfl, h3, e3.g _ _ h2, e3.g _ _ (e2.g _ _ ht1)⟩
  rw [filter_yes, List.map_id'] at pr1
  repeat lcg_off
  refine k_sortedD R (fun w => .tuple (.tuple [.int w.d, .str w.n] :: [.tuple [.str w.n, .int w.p, .int w.a, .int w.d]])) _ (SqL.of h1) pr1 (fun v w ⟨t, k', r, q1, q2, q3, q4⟩ => by subst q1; exact .tup (SqT.of q2) (.cons (.tup (SqT.of q3) (.cons (.int _) (.cons (.str _) .nil))) (.cons (.tup (SqT.of q4) (.cons (.str _) (.cons (.int _) (.cons (.int _) (.cons (.int _) .nil))))) .nil))) (fun b b' => by simp [PySem.W.alike, PySem.W.alikeAll]) (fun b => ⟨_, _, rfl⟩) (fun b => by simp [PyData.depth, PyData.depthAll]) fun ys p4 H4 hp4 e4 h4 pr4 => ?_
  rw [aged_nest (fun w => [.tuple [.str w.n, .int w.p, .int w.a, .int w.d]]) nd] at pr4
  have hys : ys.length = R.length := by rw [paired_len pr4, agedR_len]
  repeat lcg_off
  refine k_lcP (Ro := RwF) (fun _ => true) (fun w => w) (SqL.of h4) pr4 RwF_mono (fun x => rfl) (by omega) (fun v w hw hv H5 ac QB q => by (repeat lcg_off); exact q H5 (Ext.refl _)) (fun v w hw hv _ H5 ac Q1 q => ?_) (fun D2 ws2 H5 hD2 e5 h5 pr6 => ?_)
  · obtain ⟨t, k', r, rfl, q2, q3, q4⟩ := hv
    have ht5 : H5 t = some (.tup [.ref k', .ref r]) := ac.g _ _ (e4.g _ _ q2)
    repeat lcg_off
    exact q _ H5 (Ext.refl _) ⟨r, rfl, ac.g _ _ (e4.g _ _ q4)⟩
  · rw [filter_yes, List.map_id'] at pr6
    exact k D2 H5 (e1.free (e4.free hD2)) ((e1.trans e4).trans e5) ⟨ws2, h5, pr6⟩
theorem pure_l_words (vs : List V) (H : Hp) (Q : VK) (E : XK) (h : sp_l_words c vs H Q E) : t_l_words c E { nx := fun _ H' => Q .non H', rt := Q } (start ["found", "due", "k"] vs) H := by
  obtain ⟨a, b, ns, ms, rfl, ha, hb, hl, q⟩ := h
  unfold t_l_words
  repeat lcg_off
  rw [List.length_map, List.length_map]
  refine k_ifN (fun h1 => ?_) (fun h1 => ?_)
  · repeat lcg_off
    rw [decide_eq_false (fun e => h1 (by rw [e]))] at q
    exact q
  · repeat lcg_off
    rw [List.length_map]
    repeat lcg_off
    rw [Int.toNat_natCast]
    refine k_forR (fun i σ H' => (∃ v, σ = [some (.ref a), some (.ref b), v]) ∧ H' = H ∧ ∀ j, j < i → ns[j]? = ms[j]?) ⟨⟨_, rfl⟩, rfl, fun j hj => absurd hj (Nat.not_lt_zero _)⟩ ?_ ?_
    · rintro i σ H' hi ⟨⟨v, rfl⟩, rfl, hj⟩
      rw [Int.zero_add]
      show tIfS _ _ _ _ [some (.ref a), some (.ref b), some (.int (i : Int))] _
      have g1 : ns[i]? = some ns[i] := List.getElem?_eq_getElem (by omega)
      have g2 : ms[i]? = some ms[i] := List.getElem?_eq_getElem (by omega)
      repeat lcg_off
      refine k_ixL (v := .str ns[i]) (by lcg_sub) (atI_nat (by rw [List.getElem?_map, g1]; rfl)) ?_
      repeat lcg_off
      refine k_ixL (v := .str ns[i]) (by lcg_sub) (atI_nat (by rw [List.getElem?_map, g1]; rfl)) ?_
      repeat lcg_off
      refine k_ixL (v := .str ms[i]) (by lcg_sub) (atI_nat (by rw [List.getElem?_map, g2]; rfl)) ?_
      repeat lcg_off
      refine k_ifN (fun h2 => ?_) (fun h2 => ?_)
      · repeat lcg_off
        rw [decide_eq_false (fun e => h2 (by simp only [e]))] at q
        exact q
      · repeat lcg_off
        refine ⟨⟨_, rfl⟩, rfl, fun j hj' => ?_⟩
        by_cases ej : j = i
        · subst ej
          rw [g1, g2, h2]
        · exact hj j (by omega)
    · rintro σ H' ⟨⟨v, rfl⟩, rfl, hj⟩
      repeat lcg_off
      have e : ns = ms := List.ext_getElem? fun j => by
        by_cases hj' : j < ms.length
        · exact hj j (by omega)
        · rw [List.getElem?_eq_none (by omega), List.getElem?_eq_none (by omega)]
      rw [decide_eq_true e] at q
      exact q
theorem pure_l_right_is (vs : List V) (H : Hp) (Q : VK) (E : XK) (h : sp_l_right_is c vs H Q E) : t_l_right_is c E { nx := fun _ H' => Q .non H', rt := Q } (start ["found", "due", "k"] vs) H := by
  obtain ⟨t, t', w, rfl, h1, h2, q⟩ := h
  unfold t_l_right_is
  repeat lcg_off
  refine k_ifN (fun z => absurd rfl z) fun _ => ?_
  repeat lcg_off
  refine k_forR (fun i σ H' => (∃ v, σ = [some (.ref t), some (.ref t'), v]) ∧ H' = H) ⟨⟨_, rfl⟩, rfl⟩ ?_ ?_
  · rintro i σ H' hi ⟨⟨v, rfl⟩, rfl⟩
    rw [Int.zero_add]
    show tIfS _ _ _ _ [some (.ref t), some (.ref t'), some (.int (i : Int))] _
    have hi' : i < 3 := hi
    have key : ∃ z : Int, atI [nV w.p, .int w.a, .int w.d] (i : Int) = some (.int z) ∧ atI [.str w.n, nV w.p, .int w.a, .int w.d] ((i : Int) + 1) = some (.int z) := by
      rcases (by omega : i = 0 ∨ i = 1 ∨ i = 2) with rfl | rfl | rfl
      · exact ⟨(w.p : Int), rfl, rfl⟩
      · exact ⟨w.a, rfl, rfl⟩
      · exact ⟨w.d, rfl, rfl⟩
    obtain ⟨z, z1, z2⟩ := key
    repeat lcg_off
    refine k_ixT (by lcg_sub) z1 ?_
    refine ⟨_, rfl, ?_⟩
    repeat lcg_off
    refine k_ixT (by lcg_sub) z1 ?_
    repeat lcg_off
    refine k_ixT (by lcg_sub) z2 ?_
    repeat lcg_off
    refine k_ifN (fun z => absurd rfl z) fun _ => ?_
    repeat lcg_off
    exact ⟨⟨_, rfl⟩, rfl⟩
  · rintro σ H' ⟨⟨v, rfl⟩, rfl⟩
    repeat lcg_off
    exact q
theorem pure_l_book (vs : List V) (H : Hp) (Q : VK) (E : XK) (h : sp_l_book c vs H Q E) : t_l_book c E { nx := fun _ H' => Q .non H', rt := Q } (start ["below", "rights", "book", "right"] vs) H := by
  obtain ⟨b, p, B, R, rfl, hb, hB, ⟨xs, hp, pr⟩, nd, hpt, hl, k⟩ := h
  have hxl := paired_len pr
  unfold t_l_book
  repeat lcg_off
  intro lb H1 hlb e1 h1
  repeat lcg_off
  refine k_mkRiver (by lcg_sub) hB fun r l H2 hr hlr hrl e2 A2 => ?_
  repeat lcg_off
  refine k_mkBook A2 fun x d H3 hx hd hxd e3 A3 => ?_
  repeat lcg_off
  have ac3 : Ac H H3 := (e1.ac.step e2).step e3
  have hp3 : H3 p = some (.lst xs) := ac3.g _ _ hp
  have pr3 : Paired (RwF H3) xs R := pr.mono fun v w q => RwF_mono _ _ v w ac3.tup q
  refine k_forL (fun i σ H' => (∃ v, σ = [some (.ref b), some (.ref p), some (.ref x), v]) ∧ But [d] H3 H' ∧ TupE H3 H' ∧ BokAt c H' x r l B d (R.take i)) ⟨⟨_, rfl⟩, (Ext.refl _).but, TupE.refl _, A3⟩ (fun i σ H' _ p => SqL.of (p.2.1.g _ _ hp3 (nin_cons (A3.dic.ne hp3 fun _ z => by cases z) nin_nil))) ?_ ?_
  · rintro i y σ H4 hy ⟨⟨v, rfl⟩, b4, t4, A4⟩
    obtain ⟨w, hw, t, rfl, ht⟩ := paired_at pr3 i y hy
    have hi : i < R.length := by
      by_cases z : i < R.length
      · exact z
      · rw [List.getElem?_eq_none (by omega)] at hw
        cases hw
    have ht4 : H4 t = some (.tup [.str w.n, nV w.p, .int w.a, .int w.d]) := t4.g _ _ ht
    have et : R.take (i + 1) = R.take i ++ [w] := by
      rw [List.take_succ_eq_append_getElem hi]
      rw [List.getElem?_eq_getElem hi] at hw
      rw [Option.some.inj hw]
    show tDrop _ _ [some (.ref b), some (.ref p), some (.ref x), some (.ref t)] _
    repeat lcg_off
    refine k_meth A4.ob.choose_spec (by lcg_src) ?_
    repeat lcg_off
    have hnin : w.n ∉ (R.take i).map Rw.n := fun z => by
      have nd2 := nd
      rw [← List.take_append_drop (i + 1) R, et, List.append_assoc, List.map_append, List.nodup_append] at nd2
      exact nd2.2.2 _ z w.n (by simp) rfl
    refine ⟨x, r, l, B, d, R.take i, w.n, (w.p : Int), w.a, w.d, rfl, A4, by rw [List.length_take]; omega, fun z => absurd z hnin, fun _ z => absurd (by have := hpt w (List.mem_of_getElem? hw); omega) z, fun _ p' ep hp' H5 b5 t5 A5 => ?_⟩
    obtain rfl : p' = w.p := by omega
    repeat lcg_off
    refine ⟨⟨_, rfl⟩, b4.trans b5, t4.trans t5, ?_⟩
    rw [et]
    exact A5
  · rintro σ H4 ⟨⟨v, rfl⟩, b4, t4, A4⟩
    repeat lcg_off
    rw [hxl, List.take_length] at A4
    exact k x r l d H4 (e1.free (e2.free hx)) (e1.free hr) (e1.free hlr) (e1.free (e2.free hd)) (((e1.trans e2).trans e3).ac.but b4 (frs_cons (e1.free (e2.free hd)) frs_nil) |>.ext) A4
end
end Rv

end
section
namespace Rv
open PySem L2
/-! ### water dealt -/
def leastM (f : Nat → Int) : List Nat → Int → Int
  | [], a => a
  | q :: l, a => leastM f l (if f q < a then f q else a)
theorem least_a (f : Nat → Int) : ∀ (l : List Nat) (a : Int), leastM f l a ≤ a
  | [], a => Int.le_refl _
  | q :: l, a => by
    have := least_a f l (if f q < a then f q else a)
    show leastM f l _ ≤ a
    by_cases h : f q < a
    · rw [if_pos h] at this ⊢
      omega
    · rw [if_neg h] at this ⊢
      omega
theorem least_q (f : Nat → Int) : ∀ (l : List Nat) (a : Int) (q : Nat), q ∈ l → leastM f l a ≤ f q
  | x :: l, a, q, h => by
    show leastM f l _ ≤ f q
    rcases List.mem_cons.mp h with e | h
    · subst e
      have := least_a f l (if f q < a then f q else a)
      by_cases h : f q < a
      · rw [if_pos h] at this ⊢
        omega
      · rw [if_neg h] at this ⊢
        omega
    · exact least_q f l _ q h
theorem least_is (f : Nat → Int) : ∀ (l : List Nat) (a : Int), leastM f l a = a ∨ ∃ q, q ∈ l ∧ leastM f l a = f q
  | [], a => .inl rfl
  | x :: l, a => by
    show leastM f l _ = a ∨ ∃ q, q ∈ x :: l ∧ leastM f l _ = f q
    by_cases h : f x < a
    · rw [if_pos h]
      rcases least_is f l (f x) with e | ⟨q, hq, e⟩
      · exact .inr ⟨x, List.mem_cons_self, e⟩
      · exact .inr ⟨q, List.mem_cons_of_mem _ hq, e⟩
    · rw [if_neg h]
      rcases least_is f l a with e | ⟨q, hq, e⟩
      · exact .inl e
      · exact .inr ⟨q, List.mem_cons_of_mem _ hq, e⟩
theorem least_snoc (f : Nat → Int) (q : Nat) : ∀ (l : List Nat) (a : Int), leastM f (l ++ [q]) a = if f q < leastM f l a then f q else leastM f l a
  | [], _ => rfl
  | _ :: l, _ => least_snoc f q l _
theorem least_eq {f : Nat → Int} {l : List Nat} {a m : Int} (h1 : m ≤ a) (h2 : ∀ q ∈ l, m ≤ f q) (h3 : m = a ∨ ∃ q, q ∈ l ∧ m = f q) : m = leastM f l a := by
  have i1 := least_a f l a
  have i2 := least_q f l a
  have i3 := least_is f l a
  have h4 : leastM f l a ≤ m := by
    rcases h3 with e | ⟨q, hq, e⟩
    · rw [e]; exact i1
    · rw [e]; exact i2 q hq
  have h5 : m ≤ leastM f l a := by
    rcases i3 with e | ⟨q, hq, e⟩
    · rw [e]; exact h1
    · rw [e]; exact h2 q hq
  omega
def takeM (B : List Nat) (f : Nat → Int) (p : Nat) (a : Int) : Int := leastM f (wayM B p) a
def lessM (B : List Nat) (f : Nat → Int) (p : Nat) (t : Int) (q : Nat) : Int := if q ∈ wayM B p then f q - t else f q
abbrev Wnt := Nat × Int
def servM (B : List Nat) : (Nat → Int) → List Wnt → List Int × (Nat → Int)
  | f, [] => ([], f)
  | f, x :: W => (takeM B f x.1 x.2 :: (servM B (lessM B f x.1 (takeM B f x.1 x.2)) W).1, (servM B (lessM B f x.1 (takeM B f x.1 x.2)) W).2)
theorem serv_len (B : List Nat) : ∀ (W : List Wnt) (f : Nat → Int), (servM B f W).1.length = W.length
  | [], _ => rfl
  | x :: W, f => by
    show (_ :: _ : List Int).length = _
    rw [List.length_cons, serv_len B W, List.length_cons]
theorem serv_snoc (B : List Nat) (x : Wnt) : ∀ (W : List Wnt) (f : Nat → Int), servM B f (W ++ [x]) = ((servM B f W).1 ++ [takeM B (servM B f W).2 x.1 x.2], lessM B (servM B f W).2 x.1 (takeM B (servM B f W).2 x.1 x.2))
  | [], _ => rfl
  | y :: W, f => by
    have := serv_snoc B x W (lessM B f y.1 (takeM B f y.1 y.2))
    show (_ :: (servM B _ (W ++ [x])).1, (servM B _ (W ++ [x])).2) = _
    rw [this]
    rfl
theorem serv_nonneg {B : List Nat} : ∀ {W : List Wnt} {f : Nat → Int}, (∀ q, 0 ≤ f q) → (∀ x ∈ W, 0 ≤ x.2) → ∀ q, 0 ≤ (servM B f W).2 q
  | [], f, hf, _, q => hf q
  | x :: W, f, hf, hW, q => by
    refine serv_nonneg (W := W) (fun q => ?_) (fun y hy => hW y (List.mem_cons_of_mem _ hy)) q
    unfold lessM
    by_cases h : q ∈ wayM B x.1
    · rw [if_pos h]
      have : takeM B f x.1 x.2 ≤ f q := least_q _ _ _ _ h
      omega
    · rw [if_neg h]
      exact hf q
theorem take_nonneg {B : List Nat} {f : Nat → Int} {p : Nat} {a : Int} (hf : ∀ q, 0 ≤ f q) (ha : 0 ≤ a) : 0 ≤ takeM B f p a := by
  unfold takeM
  rcases least_is f (wayM B p) a with e | ⟨q, _, e⟩
  · rw [e]; exact ha
  · rw [e]; exact hf q
theorem less_nonneg {B : List Nat} {f : Nat → Int} {p : Nat} {a : Int} (hf : ∀ q, 0 ≤ f q) (q : Nat) : 0 ≤ lessM B f p (takeM B f p a) q := by
  unfold lessM
  by_cases h : q ∈ wayM B p
  · rw [if_pos h]
    have : takeM B f p a ≤ f q := least_q _ _ _ _ h
    omega
  · rw [if_neg h]
    exact hf q
theorem serv_le {B : List Nat} : ∀ {W : List Wnt} {f : Nat → Int}, (∀ q, 0 ≤ f q) → (∀ x ∈ W, 0 ≤ x.2) → ∀ q, (servM B f W).2 q ≤ f q
  | [], f, _, _, q => Int.le_refl _
  | x :: W, f, hf, hW, q => by
    have h1 := serv_le (B := B) (W := W) (less_nonneg (B := B) (p := x.1) (a := x.2) hf) (fun y hy => hW y (List.mem_cons_of_mem _ hy)) q
    have h2 := take_nonneg (B := B) (p := x.1) hf (hW x List.mem_cons_self)
    have h3 : lessM B f x.1 (takeM B f x.1 x.2) q ≤ f q := by
      unfold lessM
      by_cases h : q ∈ wayM B x.1
      · rw [if_pos h]; omega
      · rw [if_neg h]; omega
    exact Int.le_trans h1 h3
/-- who takes less than it wants has a point on its way where nothing flows behind all -/
theorem serv_dry {B : List Nat} : ∀ {W : List Wnt} {f : Nat → Int}, (∀ q, 0 ≤ f q) → (∀ x ∈ W, 0 ≤ x.2) → ∀ (i : Nat) x t, W[i]? = some x → (servM B f W).1[i]? = some t → t < x.2 → ∃ q, q ∈ wayM B x.1 ∧ (servM B f W).2 q = 0
  | [], _, _, _, i, x, t, h, _, _ => by simp at h
  | y :: W, f, hf, hW, 0, x, t, h, ht, hlt => by
    obtain rfl : y = x := Option.some.inj h
    obtain rfl : takeM B f y.1 y.2 = t := Option.some.inj ht
    rcases least_is f (wayM B y.1) y.2 with e | ⟨q, hq, e⟩
    · exact absurd (show takeM B f y.1 y.2 = y.2 from e) (by omega)
    · refine ⟨q, hq, ?_⟩
      have hW' : ∀ z ∈ W, 0 ≤ z.2 := fun z hz => hW z (List.mem_cons_of_mem _ hz)
      have hl := less_nonneg (B := B) (p := y.1) (a := y.2) hf
      have h1 := serv_le (B := B) (W := W) hl hW' q
      have h2 := serv_nonneg (B := B) (W := W) hl hW' q
      have h3 : lessM B f y.1 (takeM B f y.1 y.2) q = 0 := by
        unfold lessM
        rw [if_pos hq]
        have : takeM B f y.1 y.2 = f q := e
        omega
      show (servM B _ W).2 q = 0
      omega
  | y :: W, f, hf, hW, i + 1, x, t, h, ht, hlt => serv_dry (W := W) (less_nonneg (B := B) (p := y.1) (a := y.2) hf) (fun z hz => hW z (List.mem_cons_of_mem _ hz)) i x t h ht hlt
theorem serv_take {B : List Nat} : ∀ {W : List Wnt} {f : Nat → Int}, (∀ q, 0 ≤ f q) → (∀ x ∈ W, 0 ≤ x.2) → ∀ (i : Nat) x t, W[i]? = some x → (servM B f W).1[i]? = some t → 0 ≤ t ∧ t ≤ x.2
  | [], _, _, _, i, x, t, h, _ => by simp at h
  | y :: W, f, hf, hW, 0, x, t, h, ht => by
    obtain rfl : y = x := Option.some.inj h
    obtain rfl : takeM B f y.1 y.2 = t := Option.some.inj ht
    exact ⟨take_nonneg hf (hW y List.mem_cons_self), least_a _ _ _⟩
  | y :: W, f, hf, hW, i + 1, x, t, h, ht => serv_take (W := W) (less_nonneg (B := B) (p := y.1) (a := y.2) hf) (fun z hz => hW z (List.mem_cons_of_mem _ hz)) i x t h ht
/-- what flows ahead of all -/
def f0M (B : List Nat) (Y : List Int) : Nat → Int := flowM B fun p => Y.getD p 0
theorem f0M_zero (B : List Nat) (Y : List Int) : flowM B (netM Y (Y.map fun _ => 0)) = f0M B Y := by
  funext q
  refine sumR_congr fun p _ => ?_
  have : netM Y (Y.map fun _ => 0) p = Y.getD p 0 := by
    unfold netM
    have e : (Y.map fun _ => (0 : Int)).getD p 0 = 0 := by
      rw [List.getD_eq_getElem?_getD, List.getElem?_map]
      cases Y[p]? <;> rfl
    rw [e, Int.sub_zero]
  rw [this]
theorem f0M_nonneg {B : List Nat} {Y : List Int} (h : Year B Y) (q : Nat) : 0 ≤ f0M B Y q := sumR_nonneg fun p _ => by
  by_cases z : q ∈ wayM B p
  · rw [if_pos z]
    exact (h.get p).1
  · rw [if_neg z]
    exact Int.le_refl _
def wntM (w : Rw) : Wnt := (w.p, w.a)
def takesM (B : List Nat) (Y : List Int) (R : List Rw) : List Int := (servM B (f0M B Y) ((agedR R).map wntM)).1
def leftM (B : List Nat) (Y : List Int) (R : List Rw) : Nat → Int := (servM B (f0M B Y) ((agedR R).map wntM)).2
theorem takesM_len (B : List Nat) (Y : List Int) (R : List Rw) : (takesM B Y R).length = R.length := by
  unfold takesM
  rw [serv_len, List.length_map, agedR_len]
def dealR (B : List Nat) (Y : List Int) (R : List Rw) : List (Rw × Int) := (agedR R).zip (takesM B Y R)
def dealtM (B : List Nat) (Y : List Int) (R : List Rw) : List (Str × Int) := (dealR B Y R).map fun x => (x.1.n, x.2)
def shortM (B : List Nat) (Y : List Int) (R : List Rw) : List Str := ((dealR B Y R).filter fun x => decide (x.2 < x.1.a)).map fun x => x.1.n
def dryM (B : List Nat) (Y : List Int) (R : List Rw) (w : Rw) : Nat := ((wayM B w.p).filter fun q => decide (leftM B Y R q = 0)).headD 0
def shutM (B : List Nat) (Y : List Int) (R : List Rw) (j : Nat) (w : Rw) : List Rw := ((agedR R).drop (j + 1)).filter fun u => decide (0 < u.a) && decide (dryM B Y R w ∈ wayM B u.p)
theorem dealR_len (B : List Nat) (Y : List Int) (R : List Rw) : (dealR B Y R).length = R.length := by
  unfold dealR
  rw [List.length_zip, agedR_len, takesM_len]
  omega
theorem dealR_at {B : List Nat} {Y : List Int} {R : List Rw} {x : Rw × Int} (h : x ∈ dealR B Y R) : ∃ i : Nat, (agedR R)[i]? = some x.1 ∧ (takesM B Y R)[i]? = some x.2 := by
  obtain ⟨i, hi, e⟩ := List.getElem_of_mem h
  unfold dealR at e hi
  rw [List.length_zip] at hi
  rw [List.getElem_zip] at e
  subst e
  exact ⟨i, List.getElem?_eq_getElem (by omega), List.getElem?_eq_getElem (by omega)⟩
theorem dealR_of {B : List Nat} {Y : List Int} {R : List Rw} {i : Nat} {w : Rw} {t : Int} (h1 : (agedR R)[i]? = some w) (h2 : (takesM B Y R)[i]? = some t) : (dealR B Y R)[i]? = some (w, t) := by
  unfold dealR
  rw [List.getElem?_zip_eq_some]
  exact ⟨h1, h2⟩
theorem dealR_mem {B : List Nat} {Y : List Int} {R : List Rw} {x : Rw × Int} (h : x ∈ dealR B Y R) : x.1 ∈ R := by
  obtain ⟨i, h1, _⟩ := dealR_at h
  exact agedR_mem.mp (List.mem_of_getElem? h1)
theorem short_dry {B : List Nat} {Y : List Int} {R : List Rw} {w : Rw} (hY : Year B Y) (ha : ∀ w ∈ R, 0 ≤ w.a) (nd : (R.map Rw.n).Nodup) (hw : w ∈ R) (h : w.n ∈ shortM B Y R) : (wayM B w.p).filter (fun q => decide (leftM B Y R q = 0)) ≠ [] := by
  obtain ⟨x, hx, e⟩ := List.mem_map.mp h
  obtain ⟨hx1, hx2⟩ := List.mem_filter.mp hx
  obtain rfl : x.1 = w := nodup_inj nd (dealR_mem hx1) hw e
  obtain ⟨i, h1, h2⟩ := dealR_at hx1
  obtain ⟨q, hq, hz⟩ := serv_dry (B := B) (f0M_nonneg hY) (W := (agedR R).map wntM) (fun y hy => by
    obtain ⟨u, hu, rfl⟩ := List.mem_map.mp hy
    exact ha u (agedR_mem.mp hu)) i (wntM x.1) x.2 (by rw [List.getElem?_map, h1]; rfl) h2 (of_decide_eq_true hx2)
  intro z
  have : q ∈ (wayM B x.1.p).filter fun q => decide (leftM B Y R q = 0) := List.mem_filter.mpr ⟨hq, decide_eq_true hz⟩
  rw [z] at this
  cases this
/-! ### promises -/
def WnV : Hp → V → Wnt → Prop := fun H v x => ∃ t rest, v = .ref t ∧ H t = some (.tup (nV x.1 :: .int x.2 :: rest))
theorem WnV_mono : ∀ H H' v w, TupE H H' → WnV H v w → WnV H' v w := fun H H' v w e ⟨t, r, h1, h2⟩ => ⟨t, r, h1, e.g _ _ h2⟩
def PrV : Hp → V → Str × Int → Prop := fun H v x => ∃ t, v = .ref t ∧ H t = some (.tup [.str x.1, .int x.2])
theorem PrV_mono : ∀ H H' v w, TupE H H' → PrV H v w → PrV H' v w := fun H H' v w e ⟨t, h1, h2⟩ => ⟨t, h1, e.g _ _ h2⟩
structure PrsAt (H : Hp) (p : Addr) (L : List (Str × Int)) : Prop where
  ex : ∃ xs, H p = some (.lst xs) ∧ Paired (PrV H) xs L
theorem PrsAt.to {H H' : Hp} {p : Addr} {L : List (Str × Int)} (A : PrsAt H p L) (t : TupE H H') (h : ∀ o, H p = some o → H' p = some o) : PrsAt H' p L :=
  let ⟨xs, h1, p1⟩ := A.ex
  ⟨xs, h _ h1, p1.mono fun v w q => PrV_mono _ _ v w t q⟩
theorem PrsAt.ext {H H' : Hp} {p : Addr} {L : List (Str × Int)} (A : PrsAt H p L) (e : Ext H H') : PrsAt H' p L := A.to e.tup fun o h => e.g _ _ h
def sp_served (c : Cs) : Sp := fun vs H Q E => ∃ r l B y Y w xs W, vs = [.ref r, .ref y, .ref w] ∧ RivAt c H r l B ∧ SqL c.K H y (Y.map V.int) ∧ Y.length ≤ 1000 ∧ H w = some (.lst xs) ∧ Paired (WnV H) xs W ∧ (∀ x ∈ W, x.1 ≤ B.length) ∧ W.length ≤ 1000 ∧
  (¬ Year B Y → ∀ H', Ext H H' → E (.ref c.badYear) none H') ∧
  (Year B Y → ∀ t tk fl H', H t = none → H tk = none → H fl = none → tk ≠ fl → Ext H H' → H' t = some (.tup [.ref tk, .ref fl]) → H' tk = some (.lst ((servM B (f0M B Y) W).1.map V.int)) → H' fl = some (.lst (fV (B.length + 1) (servM B (f0M B Y) W).2)) → Q (.ref t) H')
def sp_all_served (c : Cs) : Sp := fun vs H Q E => ∃ b r l B d R y Y, vs = [.ref b, .ref y] ∧ BokAt c H b r l B d R ∧ SqL c.K H y (Y.map V.int) ∧ Y.length ≤ 1000 ∧
  (¬ Year B Y → ∀ H', Ext H H' → E (.ref c.badYear) none H') ∧
  (Year B Y → ∀ t tk fl H', H t = none → H tk = none → H fl = none → tk ≠ fl → Ext H H' → H' t = some (.tup [.ref tk, .ref fl]) → H' tk = some (.lst ((takesM B Y R).map V.int)) → H' fl = some (.lst (fV (B.length + 1) (leftM B Y R))) → Q (.ref t) H')
def sp_dealt (c : Cs) : Sp := fun vs H Q E => ∃ b r l B d R y Y, vs = [.ref b, .ref y] ∧ BokAt c H b r l B d R ∧ SqL c.K H y (Y.map V.int) ∧ Y.length ≤ 1000 ∧
  (¬ Year B Y → ∀ H', Ext H H' → E (.ref c.badYear) none H') ∧ (Year B Y → ∀ q H', H q = none → Ext H H' → PrsAt H' q (dealtM B Y R) → Q (.ref q) H')
def sp_left (c : Cs) : Sp := fun vs H Q E => ∃ b r l B d R y Y, vs = [.ref b, .ref y] ∧ BokAt c H b r l B d R ∧ SqL c.K H y (Y.map V.int) ∧ Y.length ≤ 1000 ∧
  (¬ Year B Y → ∀ H', Ext H H' → E (.ref c.badYear) none H') ∧ (Year B Y → ∀ q H', H q = none → Ext H H' → H' q = some (.lst (fV (B.length + 1) (leftM B Y R))) → Q (.ref q) H')
def sp_short (c : Cs) : Sp := fun vs H Q E => ∃ b r l B d R y Y, vs = [.ref b, .ref y] ∧ BokAt c H b r l B d R ∧ SqL c.K H y (Y.map V.int) ∧ Y.length ≤ 1000 ∧
  (¬ Year B Y → ∀ H', Ext H H' → E (.ref c.badYear) none H') ∧ (Year B Y → ∀ q H', H q = none → Ext H H' → H' q = some (.lst ((shortM B Y R).map V.str)) → Q (.ref q) H')
def sp_dry (c : Cs) : Sp := fun vs H Q E => ∃ b r l B d R y Y n, vs = [.ref b, .ref y, .str n] ∧ BokAt c H b r l B d R ∧ SqL c.K H y (Y.map V.int) ∧ Y.length ≤ 1000 ∧ (∀ w ∈ R, 0 ≤ w.a) ∧
  (¬ Year B Y → ∀ H', Ext H H' → E (.ref c.badYear) none H') ∧ (Year B Y → n ∉ R.map Rw.n → ∀ H', Ext H H' → E (.ref c.noRight) none H') ∧
  (Year B Y → n ∈ R.map Rw.n → n ∉ shortM B Y R → ∀ H', Ext H H' → E (.ref c.notShort) none H') ∧
  (Year B Y → ∀ w ∈ R, w.n = n → n ∈ shortM B Y R → ∀ H', Ext H H' → Q (nV (dryM B Y R w)) H')
def sp_shut (c : Cs) : Sp := fun vs H Q E => ∃ b r l B d R y Y n, vs = [.ref b, .ref y, .str n] ∧ BokAt c H b r l B d R ∧ SqL c.K H y (Y.map V.int) ∧ Y.length ≤ 1000 ∧ (∀ w ∈ R, 0 ≤ w.a) ∧
  (¬ Year B Y → ∀ H', Ext H H' → E (.ref c.badYear) none H') ∧ (Year B Y → n ∉ R.map Rw.n → ∀ H', Ext H H' → E (.ref c.noRight) none H') ∧
  (Year B Y → n ∈ R.map Rw.n → n ∉ shortM B Y R → ∀ H', Ext H H' → E (.ref c.notShort) none H') ∧
  (Year B Y → ∀ (j : Nat) w, (agedR R)[j]? = some w → w.n = n → n ∈ shortM B Y R → ∀ q H', H q = none → Ext H H' → H' q = some (.lst (((shutM B Y R j w).map Rw.n).map V.str)) → Q (.ref q) H')
section
variable {K : PySem.W.Frag} {H : Hp} {Q : VK}
theorem k_min {a : Addr} {ns : List Int} {m : Int} (h : SqL K H a (ns.map V.int)) (hl : 0 < ns.length) (hm : ∀ z, z ∈ ns → (∀ y ∈ ns, z ≤ y) → z = m) (q : Q (.int m) H) : rMin K [.ref a] H Q :=
  ⟨a, ns, rfl, h, hl, fun z h1 h2 => by rw [hm z h1 h2]; exact q⟩
theorem k_indexS {a : Addr} {NS : List Str} {n : Str} {j : Nat} (h : SqL K H a (NS.map V.str)) (nd : NS.Nodup) (hj : NS[j]? = some n) (q : Q (.int (j : Int)) H) : rIndex K (.ref a) [.str n] H Q := by
  refine ⟨a, NS.map V.str, .str n, j, .str n, rfl, rfl, h, rfl, all_flat_str _, by rw [List.getElem?_map, hj]; rfl, ?_, fun m z hm hz => ?_, q⟩
  · show (n == n) = true
    exact beq_self_eq_true n
  · rw [List.getElem?_map] at hz
    obtain ⟨s, hs, rfl⟩ := Option.map_eq_some_iff.mp hz
    show (s == n) = false
    refine beq_eq_false_iff_ne.mpr fun e => ?_
    subst e
    have hj' : j < NS.length := by
      by_cases z : j < NS.length
      · exact z
      · rw [List.getElem?_eq_none (by omega)] at hj
        cases hj
    have := (List.getElem?_inj hj' nd).mp (hj.trans hs.symm)
    omega
theorem k_ixP {p : Addr} {L : List (Str × Int)} {i : Nat} {x : Str × Int} (A : PrsAt H p L) (hx : L[i]? = some x) (q : ∀ t, H t = some (.tup [.str x.1, .int x.2]) → Q (.ref t) H) : rIxL K (.ref p) (.int (i : Int)) H Q := by
  obtain ⟨xs, h, pr⟩ := A.ex
  obtain ⟨v, hv, t, e, ht⟩ := paired_ta pr i x hx
  subst e
  exact k_ixL (SqL.of h) (atI_nat hv) (q t ht)
theorem at1 {α : Type} (x y : α) (xs : List α) : atI (x :: y :: xs) 1 = some y := atI_nat (j := 1) rfl
theorem inV_str (n : Str) (xs : List Str) : inV (.str n) (xs.map V.str) = decide (n ∈ xs) := by
  unfold inV
  rw [List.any_map]
  by_cases h : n ∈ xs
  · rw [decide_eq_true h, List.any_eq_true]
    refine ⟨n, h, ?_⟩
    show (n == n) = true
    exact beq_self_eq_true n
  · rw [decide_eq_false h, List.any_eq_false]
    intro q hq e
    have e' : (q == n) = true := e
    exact h ((eq_of_beq e') ▸ hq)
end
end Rv
local macro_rules | `(tactic| lcg_src) => `(tactic| first
  | assumption
  | (with_reducible exact Rv.lk_here)
  | (refine (Rv.lk_past (by decide +kernel)).trans ?_; lcg_src)
  | (with_unfolding_all exact rfl))
local macro_rules | `(tactic| keq_hits) => `(tactic| first
  | assumption
  | ((with_reducible apply Rv.Ext.hl); (focus assumption); (focus keq_hits))
  | ((with_reducible apply Rv.But.hl); (focus assumption); (focus keq_hits); (focus keq_hits))
  | ((with_reducible apply Rv.Ac.hl); (focus assumption); (focus keq_hits))
  | ((with_reducible apply L2.SqL.of); (focus assumption))
  | ((with_reducible apply Rv.Ext.sq); (focus assumption); (focus keq_hits))
  | ((with_reducible apply Rv.But.sq); (focus assumption); (focus keq_hits); (focus keq_hits))
  | ((with_reducible apply Rv.Ac.sq); (focus assumption); (focus keq_hits))
  | ((with_reducible apply L2.SqT.of); (focus assumption))
  | ((with_reducible apply Rv.Ext.st); (focus assumption); (focus keq_hits))
  | ((with_reducible apply Rv.But.st); (focus assumption); (focus keq_hits); (focus keq_hits))
  | ((with_reducible apply Rv.Ac.st); (focus assumption); (focus keq_hits))
  | ((with_reducible apply L2.Rd.of); (focus keq_hits))
  | ((with_reducible apply Rv.RivAt.ext); (focus assumption); (focus keq_hits))
  | ((with_reducible apply Rv.RivAt.but); (focus assumption); (focus keq_hits); (focus keq_hits); (focus keq_hits))
  | ((with_reducible apply Rv.RivAt.ac); (focus assumption); (focus keq_hits))
  | (with_reducible apply Rv.nin_nil)
  | ((with_reducible apply Rv.BokAt.ext); (focus assumption); (focus keq_hits))
  | ((with_reducible apply Rv.DicAt.ne); (focus assumption); (focus assumption); (focus (intro _ z; cases z)))
  | ((with_reducible apply Rv.DicAt.nf); (focus assumption); (focus assumption))
  | ((with_reducible apply Rv.Ext.tup); (focus assumption))
  | ((with_reducible apply Rv.Ac.tup); (focus assumption))
  | ((with_reducible apply Rv.nin_cons); (focus keq_hits); (focus keq_hits))
  | (with_reducible apply Rv.frs_nil)
  | ((with_reducible apply Rv.frs_cons); (focus keq_hits); (focus keq_hits))
  | ((with_reducible apply Ne.symm); (focus assumption))
  | ((with_reducible apply Rv.ne_nf); (focus assumption); (focus assumption))
  | ((with_reducible apply Rv.ne_fn); (focus assumption); (focus assumption))
  | ((with_reducible apply Rv.ne_k1); (focus assumption); (focus assumption); (focus (first | (intro z; cases z; done) | ((with_reducible apply Rv.ins_ne); intro z; cases z; done))))
  | ((with_reducible apply Rv.ne_k2); (focus assumption); (focus assumption); (focus (first | (intro z; cases z; done) | ((with_reducible apply Rv.ins_ne); intro z; cases z; done))))
  | ((with_reducible apply Rv.free2); (focus assumption); (focus assumption))
  | (with_reducible apply Rv.Ac.refl)
  | ((with_reducible apply Rv.Ac.step'); (focus assumption); (focus keq_hits))
  | ((with_reducible apply Rv.Ac.but'); (focus assumption); (focus keq_hits); (focus keq_hits))
  | (with_reducible apply Rv.Ext.refl)
  | ((with_reducible apply Rv.Ac.ext); (focus keq_hits))
  | ((with_reducible apply Rv.sz_le); first | omega | (simp only [List.length_cons, List.length_nil, List.length_map, List.length_append]; omega))
  | ((with_reducible apply Rv.sz_lt); first | omega | (simp only [List.length_cons, List.length_nil, List.length_map, List.length_append]; omega)))
local macro_rules | `(tactic| kln_le) => `(tactic| first
  | assumption
  | ((with_reducible apply Rv.Ext.hl); (focus assumption); (focus kln_le))
  | ((with_reducible apply Rv.But.hl); (focus assumption); (focus kln_le); (focus kln_le))
  | ((with_reducible apply Rv.Ac.hl); (focus assumption); (focus kln_le))
  | ((with_reducible apply L2.SqL.of); (focus assumption))
  | ((with_reducible apply Rv.Ext.sq); (focus assumption); (focus kln_le))
  | ((with_reducible apply Rv.But.sq); (focus assumption); (focus kln_le); (focus kln_le))
  | ((with_reducible apply Rv.Ac.sq); (focus assumption); (focus kln_le))
  | ((with_reducible apply L2.SqT.of); (focus assumption))
  | ((with_reducible apply Rv.Ext.st); (focus assumption); (focus kln_le))
  | ((with_reducible apply Rv.But.st); (focus assumption); (focus kln_le); (focus kln_le))
  | ((with_reducible apply Rv.Ac.st); (focus assumption); (focus kln_le))
  | ((with_reducible apply L2.Rd.of); (focus kln_le))
  | ((with_reducible apply Rv.RivAt.ext); (focus assumption); (focus kln_le))
  | ((with_reducible apply Rv.RivAt.but); (focus assumption); (focus kln_le); (focus kln_le); (focus kln_le))
  | ((with_reducible apply Rv.RivAt.ac); (focus assumption); (focus kln_le))
  | (with_reducible apply Rv.nin_nil)
  | ((with_reducible apply Rv.BokAt.ext); (focus assumption); (focus kln_le))
  | ((with_reducible apply Rv.DicAt.ne); (focus assumption); (focus keq_hits); (focus (intro _ z; cases z)))
  | ((with_reducible apply Rv.DicAt.nf); (focus assumption); (focus keq_hits))
  | ((with_reducible apply Rv.Ext.tup); (focus assumption))
  | ((with_reducible apply Rv.Ac.tup); (focus assumption))
  | ((with_reducible apply Rv.nin_cons); (focus kln_le); (focus kln_le))
  | (with_reducible apply Rv.frs_nil)
  | ((with_reducible apply Rv.frs_cons); (focus kln_le); (focus kln_le))
  | ((with_reducible apply Ne.symm); (focus assumption))
  | ((with_reducible apply Rv.ne_nf); (focus assumption); (focus keq_hits))
  | ((with_reducible apply Rv.ne_fn); (focus assumption); (focus keq_hits))
  | ((with_reducible apply Rv.ne_k1); (focus assumption); (focus keq_hits); (focus (first | (intro z; cases z; done) | ((with_reducible apply Rv.ins_ne); intro z; cases z; done))))
  | ((with_reducible apply Rv.ne_k2); (focus assumption); (focus keq_hits); (focus (first | (intro z; cases z; done) | ((with_reducible apply Rv.ins_ne); intro z; cases z; done))))
  | ((with_reducible apply Rv.free2); (focus assumption); (focus keq_hits))
  | (with_reducible apply Rv.Ac.refl)
  | ((with_reducible apply Rv.Ac.step'); (focus assumption); (focus kln_le))
  | ((with_reducible apply Rv.Ac.but'); (focus assumption); (focus kln_le); (focus kln_le))
  | (with_reducible apply Rv.Ext.refl)
  | ((with_reducible apply Rv.Ac.ext); (focus kln_le))
  | ((with_reducible apply Rv.sz_le); first | omega | (simp only [List.length_cons, List.length_nil, List.length_map, List.length_append]; omega))
  | ((with_reducible apply Rv.sz_lt); first | omega | (simp only [List.length_cons, List.length_nil, List.length_map, List.length_append]; omega)))
local macro_rules | `(tactic| lcg_sub) => `(tactic| first
  | assumption
  | ((with_reducible apply Rv.Ext.hl); (focus assumption); (focus lcg_sub))
  | ((with_reducible apply Rv.But.hl); (focus assumption); (focus lcg_sub); (focus lcg_sub))
  | ((with_reducible apply Rv.Ac.hl); (focus assumption); (focus lcg_sub))
  | ((with_reducible apply L2.SqL.of); (focus assumption))
  | ((with_reducible apply Rv.Ext.sq); (focus assumption); (focus lcg_sub))
  | ((with_reducible apply Rv.But.sq); (focus assumption); (focus lcg_sub); (focus lcg_sub))
  | ((with_reducible apply Rv.Ac.sq); (focus assumption); (focus lcg_sub))
  | ((with_reducible apply L2.SqT.of); (focus assumption))
  | ((with_reducible apply Rv.Ext.st); (focus assumption); (focus lcg_sub))
  | ((with_reducible apply Rv.But.st); (focus assumption); (focus lcg_sub); (focus lcg_sub))
  | ((with_reducible apply Rv.Ac.st); (focus assumption); (focus lcg_sub))
  | ((with_reducible apply L2.Rd.of); (focus lcg_sub))
  | ((with_reducible apply Rv.RivAt.ext); (focus assumption); (focus lcg_sub))
  | ((with_reducible apply Rv.RivAt.but); (focus assumption); (focus lcg_sub); (focus lcg_sub); (focus lcg_sub))
  | ((with_reducible apply Rv.RivAt.ac); (focus assumption); (focus lcg_sub))
  | (with_reducible apply Rv.nin_nil)
  | ((with_reducible apply Rv.BokAt.ext); (focus assumption); (focus lcg_sub))
  | ((with_reducible apply Rv.DicAt.ne); (focus assumption); (focus kln_le); (focus (intro _ z; cases z)))
  | ((with_reducible apply Rv.DicAt.nf); (focus assumption); (focus kln_le))
  | ((with_reducible apply Rv.Ext.tup); (focus assumption))
  | ((with_reducible apply Rv.Ac.tup); (focus assumption))
  | ((with_reducible apply Rv.nin_cons); (focus lcg_sub); (focus lcg_sub))
  | (with_reducible apply Rv.frs_nil)
  | ((with_reducible apply Rv.frs_cons); (focus lcg_sub); (focus lcg_sub))
  | ((with_reducible apply Ne.symm); (focus assumption))
  | ((with_reducible apply Rv.ne_nf); (focus assumption); (focus kln_le))
  | ((with_reducible apply Rv.ne_fn); (focus assumption); (focus kln_le))
  | ((with_reducible apply Rv.ne_k1); (focus assumption); (focus kln_le); (focus (first | (intro z; cases z; done) | ((with_reducible apply Rv.ins_ne); intro z; cases z; done))))
  | ((with_reducible apply Rv.ne_k2); (focus assumption); (focus kln_le); (focus (first | (intro z; cases z; done) | ((with_reducible apply Rv.ins_ne); intro z; cases z; done))))
  | ((with_reducible apply Rv.free2); (focus assumption); (focus kln_le))
  | (with_reducible apply Rv.Ac.refl)
  | ((with_reducible apply Rv.Ac.step'); (focus assumption); (focus lcg_sub))
  | ((with_reducible apply Rv.Ac.but'); (focus assumption); (focus lcg_sub); (focus lcg_sub))
  | (with_reducible apply Rv.Ext.refl)
  | ((with_reducible apply Rv.Ac.ext); (focus lcg_sub))
  | ((with_reducible apply Rv.sz_le); first | omega | (simp only [List.length_cons, List.length_nil, List.length_map, List.length_append]; omega))
  | ((with_reducible apply Rv.sz_lt); first | omega | (simp only [List.length_cons, List.length_nil, List.length_map, List.length_append]; omega)))
local macro_rules | `(tactic| lcg_off) => `(tactic| first
  | (with_reducible apply Rv.r_seq)
  | (with_reducible apply Rv.r_asg)
  | (with_reducible apply Rv.r_op)
  | ((with_reducible apply Rv.r_var); (focus with_unfolding_all rfl))
  | (with_reducible apply Rv.r_c)
  | (with_reducible apply Rv.r_if)
  | (with_reducible apply Rv.r_test)
  | (with_reducible apply Rv.r_fld)
  | (with_reducible apply Rv.r_cons)
  | (with_reducible apply Rv.r_nil)
  | (with_reducible apply Rv.r_ret)
  | (with_reducible apply Rv.r_drop)
  | (with_reducible apply Rv.r_meth)
  | (with_reducible apply Rv.r_fn)
  | (with_reducible apply Rv.r_CB)
  | (with_reducible apply Rv.r_BM)
  | (with_reducible apply Rv.r_BM0)
  | (with_reducible apply Rv.k_bl)
  | (with_reducible apply Rv.r_not)
  | (with_reducible apply Rv.r_and)
  | (with_reducible apply Rv.r_or)
  | (with_reducible apply Rv.k_andT)
  | (with_reducible apply Rv.k_andF)
  | (with_reducible apply Rv.k_orT)
  | (with_reducible apply Rv.k_orF)
  | (with_reducible apply Rv.r_tB)
  | (with_reducible apply Rv.r_chain)
  | (with_reducible apply Rv.r_un)
  | (with_reducible apply Rv.r_tup)
  | (with_reducible apply Rv.r_lst)
  | (with_reducible apply Rv.r_andV)
  | (with_reducible apply Rv.r_orV)
  | (with_reducible apply Rv.r_notV)
  | (with_reducible apply Rv.r_ifE)
  | (with_reducible apply Rv.k_notV)
  | (with_reducible apply Rv.k_andVT)
  | (with_reducible apply Rv.k_andVF)
  | (with_reducible apply Rv.k_orVT)
  | (with_reducible apply Rv.k_orVF)
  | (with_reducible apply Rv.k_addI)
  | (with_reducible apply Rv.k_subI)
  | ((with_reducible apply Rv.k_mulI); (focus (unfold L2.CMul; omega)))
  | ((with_reducible apply Rv.k_divI); (focus (unfold L2.CDiv; omega)))
  | ((with_reducible apply Rv.k_modI); (focus omega))
  | ((with_reducible apply Rv.k_powI); (focus (unfold L2.CPow; decide)))
  | (with_reducible apply Rv.k_negI)
  | (with_reducible apply Rv.k_ltI)
  | (with_reducible apply Rv.k_leI)
  | (with_reducible apply Rv.k_gtI)
  | (with_reducible apply Rv.k_geI)
  | (with_reducible apply Rv.k_eqI)
  | (with_reducible apply Rv.k_neI)
  | (with_reducible apply Rv.k_eqS)
  | (with_reducible apply Rv.k_neS)
  | (with_reducible apply Rv.k_isNN)
  | (with_reducible apply Rv.k_isNI)
  | (with_reducible apply Rv.k_isNR)
  | (with_reducible apply Rv.k_notNN)
  | (with_reducible apply Rv.k_notNI)
  | (with_reducible apply Rv.k_notNR)
  | ((with_reducible apply Rv.k_tyL); (focus lcg_sub))
  | ((with_reducible apply Rv.k_ixT); (focus lcg_sub); (focus with_unfolding_all rfl))
  | ((with_reducible apply Rv.k_ixL); (focus lcg_sub); (focus with_unfolding_all rfl))
  | ((with_reducible apply Rv.k_lenL); (focus lcg_sub))
  | ((with_reducible apply Rv.k_lenU); (focus lcg_sub))
  | ((with_reducible apply Rv.k_tup); (focus lcg_sub))
  | ((with_reducible apply Rv.k_lst); (focus lcg_sub))
  | ((with_reducible apply Rv.k_list); (focus lcg_sub))
  | ((with_reducible apply Rv.k_append); (focus lcg_sub); (focus lcg_sub))
  | ((with_reducible apply Rv.k_cat); (focus lcg_sub); (focus lcg_sub); (focus lcg_sub))
  | ((with_reducible apply Rv.k_clear); (focus lcg_sub))
  | (with_reducible apply Rv.k_int1)
  | (with_reducible apply Rv.k_max2)
  | (with_reducible apply Rv.k_min2)
  | (with_reducible apply Rv.k_str)
  | (with_reducible apply Rv.k_part)
  | (with_reducible apply Rv.r_M1)
  | (with_reducible apply Rv.r_dget)
  | (with_reducible apply Rv.r_din)
  | (with_reducible apply Rv.r_dnotin)
  | (with_reducible apply Rv.r_dget2)
  | (with_reducible apply Rv.r_sl)
  | (with_reducible apply Rv.r_nopart)
  | (with_reducible apply Rv.r_part)
  | (with_reducible apply Rv.r_for)
  | (with_reducible apply Rv.r_lc)
  | (with_reducible apply Rv.r_yes)
  | (with_reducible apply Rv.r_iList)
  | (with_reducible apply Rv.r_iRng1)
  | (with_reducible apply Rv.r_iRng2)
  | (with_reducible apply Rv.r_iZip)
  | (with_reducible apply Rv.r_iStr)
  | (with_reducible apply Rv.r_iKeys)
  | (with_reducible apply Rv.r_lstRg)
  | ((with_reducible apply Rv.k_itl); (focus lcg_sub))
  | ((with_reducible apply Rv.k_zip); (focus lcg_sub); (focus lcg_sub))
  | ((with_reducible apply Rv.k_rng1); (focus omega))
  | ((with_reducible apply Rv.k_rng2); (focus omega))
  | (with_reducible apply Rv.k_its)
  | (with_reducible apply Rv.r_retN)
  | (with_reducible apply Rv.r_next)
  | (with_reducible apply Rv.r_setF)
  | (with_reducible apply Rv.r_dput)
  | (with_reducible apply Rv.r_setI)
  | (with_reducible apply Rv.r_raise)
  | (with_reducible apply Rv.r_wF)
  | (with_reducible apply Rv.k_ifTT)
  | (with_reducible apply Rv.k_ifFF)
  | (with_reducible apply Rv.k_ifNT)
  | (with_reducible apply Rv.k_ifNF)
  | (with_reducible apply Rv.k_andNT)
  | (with_reducible apply Rv.k_andNF)
  | (with_reducible apply Rv.k_orNT)
  | (with_reducible apply Rv.k_orNF)
  | (with_reducible apply Rv.k_andVNT)
  | (with_reducible apply Rv.k_andVNF)
  | (with_reducible apply Rv.k_orVNT)
  | (with_reducible apply Rv.k_orVNF)
  | (with_reducible apply Rv.k_isB_ii)
  | (with_reducible apply Rv.k_isB_ib)
  | (with_reducible apply Rv.k_isB_bi)
  | (with_reducible apply Rv.k_isB_bb)
  | (with_reducible apply Rv.k_isB_ni)
  | (with_reducible apply Rv.k_isB_ss)
  | ((with_reducible apply Rv.k_isB_ll); (focus lcg_sub))
  | ((with_reducible apply Rv.k_isB_tt); (focus lcg_sub))
  | (with_reducible apply Rv.r_mk)
  | (with_reducible apply Rv.r_rg1)
  | (with_reducible apply Rv.k_rg1)
  | (with_reducible apply Rv.r_dpop1)
  | (with_reducible apply Rv.k_ifNNT)
  | (with_reducible apply Rv.k_ifNNF)
  | (with_reducible apply Rv.r_dropE)
  | (with_reducible apply Rv.r_dropR)
  | (with_reducible apply Rv.r_dropN)
  | (with_reducible apply Rv.r_dropM))
namespace Rv
open PySem L2
-- served: 0 river 1 year 2 wants 3 flow 4 inflow 5 takes 6 want 7 way 8 take 9 point
def t_served (c : Cs) (E : XK) : TS :=
  (tSeq (tAsg (tFn (sp_flows c) (wF E) (tCons (tVar 0) (tCons (tVar 1) (tCons (tLc (iList c.K (tVar 1)) (gName 4) tYes (tC (.int 0)) [4]) tNil)))) (gName 3))
  (tSeq (tAsg (tLst tNil) (gName 5))
  (tSeq (tFor (iList c.K (tVar 2)) (gName 6)
  (tSeq (tAsg (tMethS c.river "way" (sp_River_way c) (wF E) (tVar 0) (tCons (tOp (rIxT c.K) (tVar 6) (tC (.int 0))) tNil)) (gName 7))
  (tSeq (tAsg (tCB (rMin c.K) (tCons (tOp rCat (tLst (tCons (tOp (rIxT c.K) (tVar 6) (tC (.int 1))) tNil)) (tLc (iList c.K (tVar 7)) (gName 9) tYes (tOp (rIxL c.K) (tVar 3) (tVar 9)) [9])) tNil)) (gName 8))
  (tSeq (tFor (iList c.K (tVar 7)) (gName 9)
  (tAsg (tOp rSubI (tOp (rIxL c.K) (tVar 3) (tVar 9)) (tVar 8)) (gSub (tVar 3) (tVar 9) rSetL)))
  (tDrop (tBM c.K "list" rAppend (tVar 5) (tCons (tVar 8) tNil)))))))
  (tRet (tTup (tCons (tVar 5) (tCons (tVar 3) tNil)))))))
-- all_served: 0 book 1 year 2 wants 3 name
def t_all_served (c : Cs) (E : XK) : TS :=
  (tSeq (tAsg (tLc (iList c.K (tMethS c.book "names" (sp_Book_names c) (wF E) (tVar 0) tNil)) (gName 3) tYes (tMethS c.book "right" (sp_Book_right c) wN (tVar 0) (tCons (tVar 3) tNil)) [3]) (gName 2))
  (tRet (tFn (sp_served c) (wF E) (tCons (tMethS c.book "river" (sp_Book_river c) (wF E) (tVar 0) tNil) (tCons (tVar 1) (tCons (tVar 2) tNil))))))
-- dealt: 0 book 1 year 2 takes 3 name 4 take
def t_dealt (c : Cs) (E : XK) : TS :=
  (tSeq (tAsg (tOp (rIxT c.K) (tFn (sp_all_served c) (wF E) (tCons (tVar 0) (tCons (tVar 1) tNil))) (tC (.int 0))) (gName 2))
  (tRet (tLc (iZip c.K (tCons (tMethS c.book "names" (sp_Book_names c) (wF E) (tVar 0) tNil) (tCons (tVar 2) tNil))) (gTup c.K 2 (gCons (gName 3) (gCons (gName 4) gNil))) tYes (tTup (tCons (tVar 3) (tCons (tVar 4) tNil))) [3, 4])))
-- left: 0 book 1 year
def t_left (c : Cs) (E : XK) : TS :=
  (tRet (tOp (rIxT c.K) (tFn (sp_all_served c) (wF E) (tCons (tVar 0) (tCons (tVar 1) tNil))) (tC (.int 1))))
-- short: 0 book 1 year 2 pair
def t_short (c : Cs) (E : XK) : TS :=
  (tRet (tLc (iList c.K (tFn (sp_dealt c) (wF E) (tCons (tVar 0) (tCons (tVar 1) tNil)))) (gName 2) (tTest (tOp rLtI (tOp (rIxT c.K) (tVar 2) (tC (.int 1))) (tOp (rIxT c.K) (tMethS c.book "right" (sp_Book_right c) wN (tVar 0) (tCons (tOp (rIxT c.K) (tVar 2) (tC (.int 0))) tNil)) (tC (.int 1))))) (tOp (rIxT c.K) (tVar 2) (tC (.int 0))) [2]))
-- dry: 0 book 1 year 2 name 3 lacking 4 row 5 flow 6 point
def t_dry (c : Cs) (E : XK) : TS :=
  (tSeq (tAsg (tFn (sp_short c) (wF E) (tCons (tVar 0) (tCons (tVar 1) tNil))) (gName 3))
  (tSeq (tAsg (tMethS c.book "right" (sp_Book_right c) (wF E) (tVar 0) (tCons (tVar 2) tNil)) (gName 4))
  (tSeq (tIfS (tTest (tOp (rIn c.K true) (tVar 2) (tVar 3))) (tRaise (wF E) c.notShort) tNext)
  (tSeq (tAsg (tFn (sp_left c) (wF E) (tCons (tVar 0) (tCons (tVar 1) tNil))) (gName 5))
  (tRet (tOp (rIxL c.K) (tLc (iList c.K (tMethS c.river "way" (sp_River_way c) (wF E) (tMethS c.book "river" (sp_Book_river c) (wF E) (tVar 0) tNil) (tCons (tOp (rIxT c.K) (tVar 4) (tC (.int 0))) tNil))) (gName 6) (tTest (tOp rEq (tOp (rIxL c.K) (tVar 5) (tVar 6)) (tC (.int 0)))) (tVar 6) [6]) (tC (.int 0))))))))
-- shut: 0 book 1 year 2 name 3 point 4 names 5 found 6 other 7 row
def t_shut (c : Cs) (E : XK) : TS :=
  (tSeq (tAsg (tFn (sp_dry c) (wF E) (tCons (tVar 0) (tCons (tVar 1) (tCons (tVar 2) tNil)))) (gName 3))
  (tSeq (tAsg (tMethS c.book "names" (sp_Book_names c) (wF E) (tVar 0) tNil) (gName 4))
  (tSeq (tAsg (tLst tNil) (gName 5))
  (tSeq (tFor (iList c.K (tSl (rSlL c.K) (tVar 4) (tPart (tOp rAddI (tBM c.K "list" (rIndex c.K) (tVar 4) (tCons (tVar 2) tNil)) (tC (.int 1)))) tNoPart)) (gName 6)
  (tSeq (tAsg (tMethS c.book "right" (sp_Book_right c) (wF E) (tVar 0) (tCons (tVar 6) tNil)) (gName 7))
  (tIfS (tAnd (tTest (tOp rGtI (tOp (rIxT c.K) (tVar 7) (tC (.int 1))) (tC (.int 0)))) (tTest (tOp (rIn c.K false) (tVar 3) (tMethS c.river "way" (sp_River_way c) (wF E) (tMethS c.book "river" (sp_Book_river c) (wF E) (tVar 0) tNil) (tCons (tOp (rIxT c.K) (tVar 7) (tC (.int 0))) tNil))))) (tDrop (tBM c.K "list" rAppend (tVar 5) (tCons (tVar 6) tNil))) tNext)))
  (tRet (tVar 5))))))
section
variable {c : Cs}
theorem pure_served (vs : List V) (H : Hp) (Q : VK) (E : XK) (h : sp_served c vs H Q E) : t_served c E { nx := fun _ H' => Q .non H', rt := Q } (start ["river", "year", "wants", "flow", "inflow", "takes", "want", "way", "take", "point"] vs) H := by
  obtain ⟨r, l, B, y, Y, w, xs, W, rfl, A, hy, hYl, hw, pr, hp, hWl, kE, k⟩ := h
  have hf := A.ok.few
  have hxl := paired_len pr
  unfold t_served
  repeat lcg_off
  refine k_lcL Y V.int (fun _ => true) (fun _ => .int 0) hy (fun x => rfl) (by omega) (fun x hx H1 ac QB q => by (repeat lcg_off); exact q H1 (Ext.refl _)) (fun x hx _ H1 ac Q1 q => by (repeat lcg_off); exact q H1 (Ext.refl _)) (fun z0 H1 hz0 e1 h1 => ?_)
  rw [filter_yes] at h1
  have h1' : H1 z0 = some (.lst ((Y.map fun _ => (0 : Int)).map V.int)) := by rw [h1, List.map_map]; rfl
  repeat lcg_off
  refine ⟨r, l, B, y, z0, Y, Y.map fun _ => 0, rfl, A.ext e1, e1.sq hy, SqL.of h1', hYl, (fun _ => by rw [List.length_map]), fun hY => ?_, fun hY => kE hY H1 e1⟩
  intro fl H2 hfl e2 h2
  rw [f0M_zero] at h2
  repeat lcg_off
  intro tk H3 htk e3 h3
  repeat lcg_off
  have hw3 : H3 w = some (.lst xs) := e3.g _ _ (e2.g _ _ (e1.g _ _ hw))
  have e13 : Ext H H3 := (e1.trans e2).trans e3
  have pr3 : Paired (WnV H3) xs W := pr.mono fun v w q => WnV_mono _ _ v w e13.tup q
  have ffl : H fl = none := e1.free hfl
  have ftk : H tk = none := e1.free (e2.free htk)
  have ntf : fl ≠ tk := ne_nf htk h2
  refine k_forL (fun i σ H' => (∃ v2 v3 v4 v5, σ = [some (.ref r), some (.ref y), some (.ref w), some (.ref fl), none, some (.ref tk), v2, v3, v4, v5]) ∧ Ac H H' ∧ TupE H3 H' ∧ H' tk = some (.lst ((servM B (f0M B Y) (W.take i)).1.map V.int)) ∧ H' fl = some (.lst (fV (B.length + 1) (servM B (f0M B Y) (W.take i)).2))) ⟨⟨_, _, _, _, rfl⟩, e13.ac, TupE.refl _, h3, e3.g _ _ h2⟩ (fun i σ H' _ p => SqL.of (p.2.1.g _ _ hw)) ?_ ?_
  · rintro i v σ H4 hv ⟨⟨v2, v3, v4, v5, rfl⟩, ac4, t4, htk4, hfl4⟩
    obtain ⟨⟨p, a⟩, hx, t, rest, rfl, ht⟩ := paired_at pr3 i v hv
    have hpB : p ≤ B.length := hp _ (List.mem_of_getElem? hx)
    have hi : i < W.length := by
      by_cases z : i < W.length
      · exact z
      · rw [List.getElem?_eq_none (by omega)] at hx
        cases hx
    have et : W.take (i + 1) = W.take i ++ [(p, a)] := by
      rw [List.take_succ_eq_append_getElem hi]
      rw [List.getElem?_eq_getElem hi] at hx
      rw [Option.some.inj hx]
    have hts := serv_len B (W.take i) (f0M B Y)
    rw [et, serv_snoc]
    rw [List.length_take] at hts
    generalize servM B (f0M B Y) (W.take i) = S at htk4 hfl4 hts
    obtain ⟨T, g⟩ := S
    have htl : T.length = min i W.length := hts
    have ht4 : H4 t = some (.tup (nV p :: .int a :: rest)) := t4.g _ _ ht
    have A4 : RivAt c H4 r l B := A.ac ac4
    show tSeq _ _ _ [some (.ref r), some (.ref y), some (.ref w), some (.ref fl), none, some (.ref tk), some (.ref t), v3, v4, v5] _
    repeat lcg_off
    refine k_meth A4.ob.choose_spec (by lcg_src) ?_
    repeat lcg_off
    refine k_ixT (SqT.of ht4) (at0 _ _) ?_
    repeat lcg_off
    refine ⟨r, l, B, p, rfl, A4, fun p' e hp' => ?_, fun hn => absurd hn (by omega)⟩
    obtain rfl : p' = p := by omega
    intro wy H5 hwy e5 h5
    repeat lcg_off
    refine k_ixT (SqT.of (e5.g _ _ ht4)) (at1 _ _ _) ?_
    repeat lcg_off
    intro q6 H6 hq6 e6 h6
    repeat lcg_off
    have hfl6 : H6 fl = some (.lst (fV (B.length + 1) g)) := e6.g _ _ (e5.g _ _ hfl4)
    refine k_lcL (wayM B p') nV (fun _ => true) (fun q => .int (g q)) (e6.sq (SqL.of h5)) (fun x => rfl) (Nat.le_trans (wayM_len p') (by omega)) (fun x hx H1 ac QB q => by (repeat lcg_off); exact q H1 (Ext.refl _)) (fun x hx _ H7 ac Q1 q => ?_) (fun D H7 hD e7 h7 => ?_)
    · have := wayM_le p' x hx
      repeat lcg_off
      refine k_ixL (SqL.of (ac.g _ _ hfl6)) (fV_at (by omega)) ?_
      exact q H7 (Ext.refl _)
    rw [filter_yes] at h7
    have hwl := wayM_len (B := B) p'
    refine k_cat (e7.g _ _ h6) h7 (sz_le (by rw [List.length_map, List.length_cons, List.length_nil]; omega)) fun q8 H8 hq8 e8 h8 => ?_
    have h8' : H8 q8 = some (.lst ((a :: (wayM B p').map g).map V.int)) := by
      rw [h8, List.map_cons, List.map_map]
      rfl
    repeat lcg_off
    refine k_min (m := takeM B g p' a) (SqL.of h8') (Nat.succ_pos _) (fun z hz hle => ?_) ?_
    · refine least_eq (hle a List.mem_cons_self) (fun q hq => hle _ (List.mem_cons_of_mem _ (List.mem_map.mpr ⟨q, hq, rfl⟩))) ?_
      rcases List.mem_cons.mp hz with e | hz
      · exact .inl e
      · obtain ⟨q, hq, e⟩ := List.mem_map.mp hz
        exact .inr ⟨q, hq, e.symm⟩
    have e48 : Ext H4 H8 := ((e5.trans e6).trans e7).trans e8
    have hfl8 : H8 fl = some (.lst (fV (B.length + 1) g)) := e48.g _ _ hfl4
    have htk8 : H8 tk = some (.lst (T.map V.int)) := e48.g _ _ htk4
    have hwy8 : H8 wy = some (.lst ((wayM B p').map nV)) := e8.g _ _ (e7.g _ _ (e6.g _ _ h5))
    have nwf : wy ≠ fl := ne_fn hwy hfl4
    repeat lcg_off
    refine k_forL (fun j σ H' => (∃ v5, σ = [some (.ref r), some (.ref y), some (.ref w), some (.ref fl), none, some (.ref tk), some (.ref t), some (.ref wy), some (.int (takeM B g p' a)), v5]) ∧ But [fl] H8 H' ∧ H' fl = some (.lst (fV (B.length + 1) fun q => if q ∈ (wayM B p').take j then g q - takeM B g p' a else g q))) ⟨⟨_, rfl⟩, (Ext.refl _).but, ?_⟩ (fun j σ H' _ p => SqL.of (p.2.1.g _ _ hwy8 (nin_cons nwf nin_nil))) ?_ ?_
    · rw [hfl8]
      exact congrArg (fun z => some (HO.lst z)) (fV_congr fun q _ => by simp)
    · rintro j x σ H9 hx9 ⟨⟨v5, rfl⟩, b9, hfl9⟩
      have hj : j < (wayM B p').length := by
        by_cases z : j < (wayM B p').length
        · exact z
        · rw [List.getElem?_eq_none (by rw [List.length_map]; omega)] at hx9
          cases hx9
      obtain ⟨q, hq⟩ : ∃ q, (wayM B p')[j]? = some q := ⟨_, List.getElem?_eq_getElem hj⟩
      rw [List.getElem?_map, hq] at hx9
      cases hx9
      have hqp := wayM_le p' q (List.mem_of_getElem? hq)
      have et2 : (wayM B p').take (j + 1) = (wayM B p').take j ++ [q] := by
        rw [List.take_succ_eq_append_getElem hj]
        rw [List.getElem?_eq_getElem hj] at hq
        rw [Option.some.inj hq]
      have hnd := wayM_nodup B p'
      rw [← List.take_append_drop (j + 1) (wayM B p'), et2, List.append_assoc] at hnd
      have hnq : q ∉ (wayM B p').take j := fun z => (List.nodup_append.mp hnd).2.2 q z q (List.mem_append_left _ List.mem_cons_self) rfl
      show tAsg _ _ _ [some (.ref r), some (.ref y), some (.ref w), some (.ref fl), none, some (.ref tk), some (.ref t), some (.ref wy), some (.int (takeM B g p' a)), some (nV q)] _
      repeat lcg_off
      refine k_ixL (SqL.of hfl9) (fV_at (by omega)) ?_
      repeat lcg_off
      refine k_setI (k := q) hfl9 (ixN_at (by rw [fV_len]; omega)) fun H10 b10 h10 => ?_
      repeat lcg_off
      refine ⟨⟨_, rfl⟩, b9.trans b10, ?_⟩
      rw [h10, fV_set]
      refine congrArg (fun z => some (HO.lst z)) (fV_congr fun x hx => ?_)
      rw [et2]
      by_cases e : x = q
      · subst e
        rw [if_pos rfl, if_neg hnq, if_pos (List.mem_append_right _ List.mem_cons_self)]
      · rw [if_neg e]
        have hm : x ∈ (wayM B p').take j ++ [q] ↔ x ∈ (wayM B p').take j := by
          rw [List.mem_append]
          exact ⟨fun z => z.elim id fun z => absurd (by simpa using z) e, .inl⟩
        simp only [hm]
    · rintro σ H9 ⟨⟨v5, rfl⟩, b9, hfl9⟩
      have htk9 : H9 tk = some (.lst (T.map V.int)) := b9.g _ _ htk8 (nin_cons ntf.symm nin_nil)
      repeat lcg_off
      intro H10 b10 h10
      repeat lcg_off
      refine ⟨⟨_, _, _, _, rfl⟩, ((ac4.step e48).but b9 (frs_cons ffl frs_nil)).but b10 (frs_cons ftk frs_nil), ((t4.trans e48.tup).trans (b9.tupL hfl8)).trans (b10.tupL htk9), ?_, ?_⟩
      · rw [h10, List.map_append]
        rfl
      · rw [b10.g _ _ hfl9 (nin_cons ntf nin_nil), List.length_map, List.take_length]
        rfl
  · rintro σ H4 ⟨⟨v2, v3, v4, v5, rfl⟩, ac4, t4, htk4, hfl4⟩
    rw [hxl, List.take_length] at htk4 hfl4
    repeat lcg_off
    intro t H5 ht e5 h5
    exact k hY t tk fl H5 (ac4.free ht) ftk ffl ntf.symm (ac4.step e5).ext h5 (e5.g _ _ htk4) (e5.g _ _ hfl4)
theorem pure_all_served (vs : List V) (H : Hp) (Q : VK) (E : XK) (h : sp_all_served c vs H Q E) : t_all_served c E { nx := fun _ H' => Q .non H', rt := Q } (start ["book", "year", "wants", "name"] vs) H := by
  obtain ⟨b, r, l, B, d, R, y, Y, rfl, A, hy, hYl, kE, k⟩ := h
  have hf := A.few
  have hal := agedR_len R
  unfold t_all_served
  repeat lcg_off
  refine k_meth A.ob.choose_spec (by lcg_src) ?_
  repeat lcg_off
  refine ⟨b, r, l, B, d, R, rfl, A, fun p H1 hp e1 h1 => ?_⟩
  repeat lcg_off
  refine k_lcLr (agedR R) (fun w => .str w.n) (fun _ => true) wntM WnV (SqL.of h1) WnV_mono (fun x => rfl) (by omega) (fun w hw H2 ac QB q => by (repeat lcg_off); exact q H2 (Ext.refl _)) (fun w hw _ H2 ac Q1 q => ?_) (fun D ws H2 hD e2 h2 pr => ?_)
  · have A2 : BokAt c H2 b r l B d R := (A.ext e1).ext ac.ext
    repeat lcg_off
    refine k_meth A2.ob.choose_spec (by lcg_src) ?_
    repeat lcg_off
    have hwR := agedR_mem.mp hw
    refine ⟨b, r, l, B, d, R, w.n, rfl, A2, fun w' hw' e t ht => ?_, fun z => absurd (List.mem_map.mpr ⟨w, hwR, rfl⟩) z⟩
    obtain rfl := nodup_inj A2.nd hw' hwR e
    exact q _ H2 (Ext.refl _) ⟨t, _, rfl, ht⟩
  rw [filter_yes] at pr
  have A2 : BokAt c H2 b r l B d R := (A.ext e1).ext e2
  have e12 := e1.trans e2
  repeat lcg_off
  refine k_meth A2.ob.choose_spec (by lcg_src) ?_
  repeat lcg_off
  refine ⟨b, r, l, B, d, R, rfl, A2, ?_⟩
  repeat lcg_off
  refine ⟨r, l, B, y, Y, D, ws, (agedR R).map wntM, rfl, A2.riv, e12.sq hy, hYl, h2, pr, fun x hx => ?_, by rw [List.length_map]; omega, fun hY H3 e3 => kE hY H3 (e12.trans e3), fun hY t tk fl H3 ht htk hfl ntf e3 h3 h4 h5 => ?_⟩
  · obtain ⟨w, hw, rfl⟩ := List.mem_map.mp hx
    exact A.pts w (agedR_mem.mp hw)
  · exact k hY t tk fl H3 (e12.free ht) (e12.free htk) (e12.free hfl) ntf (e12.trans e3) h3 h4 h5
theorem pure_left (vs : List V) (H : Hp) (Q : VK) (E : XK) (h : sp_left c vs H Q E) : t_left c E { nx := fun _ H' => Q .non H', rt := Q } (start ["book", "year"] vs) H := by
  obtain ⟨b, r, l, B, d, R, y, Y, rfl, A, hy, hYl, kE, k⟩ := h
  unfold t_left
  repeat lcg_off
  refine ⟨b, r, l, B, d, R, y, Y, rfl, A, hy, hYl, kE, fun hY t tk fl H3 ht htk hfl ntf e3 h3 h4 h5 => ?_⟩
  repeat lcg_off
  exact k hY fl H3 hfl e3 h5
theorem pure_dealt (vs : List V) (H : Hp) (Q : VK) (E : XK) (h : sp_dealt c vs H Q E) : t_dealt c E { nx := fun _ H' => Q .non H', rt := Q } (start ["book", "year", "takes", "name", "take"] vs) H := by
  obtain ⟨b, r, l, B, d, R, y, Y, rfl, A, hy, hYl, kE, k⟩ := h
  have hf := A.few
  unfold t_dealt
  repeat lcg_off
  refine ⟨b, r, l, B, d, R, y, Y, rfl, A, hy, hYl, kE, fun hY t tk fl H3 ht htk hfl ntf e3 h3 h4 h5 => ?_⟩
  repeat lcg_off
  have A3 := A.ext e3
  refine k_meth A3.ob.choose_spec (by lcg_src) ?_
  repeat lcg_off
  refine ⟨b, r, l, B, d, R, rfl, A3, fun p H4 hp e4 h6 => ?_⟩
  repeat lcg_off
  refine k_lcZr (n := R.length) (SqL.of h6) (SqL.of (e4.g _ _ h4)) (by rw [List.length_map, agedR_len]) (by rw [List.length_map, takesM_len]) (fun i => (dealtM B Y R).getD i default) PrV PrV_mono (fun x y => rfl) (by omega) (fun i x z hx hz H5 ac Q1 q => ?_) (fun D ws H5 hD e5 h7 pr => ?_)
  · rw [List.getElem?_map] at hx hz
    obtain ⟨w, hw, rfl⟩ := Option.map_eq_some_iff.mp hx
    obtain ⟨tt, htt, rfl⟩ := Option.map_eq_some_iff.mp hz
    have hd : (dealtM B Y R).getD i default = (w.n, tt) := by
      unfold dealtM
      rw [List.getD_eq_getElem?_getD, List.getElem?_map, dealR_of hw htt]
      rfl
    rw [hd] at q
    repeat lcg_off
    intro t2 H6 ht2 e6 h8
    exact q _ H6 e6 ⟨t2, rfl, h8⟩
  · have hl : (dealtM B Y R).length = R.length := by unfold dealtM; rw [List.length_map, dealR_len]
    have := range_map (dealtM B Y R) fun x => x
    rw [hl, List.map_id'] at this
    rw [this] at pr
    exact k hY D H5 (e3.free (e4.free hD)) ((e3.trans e4).trans e5) ⟨ws, h7, pr⟩
theorem pure_short (vs : List V) (H : Hp) (Q : VK) (E : XK) (h : sp_short c vs H Q E) : t_short c E { nx := fun _ H' => Q .non H', rt := Q } (start ["book", "year", "pair"] vs) H := by
  obtain ⟨b, r, l, B, d, R, y, Y, rfl, A, hy, hYl, kE, k⟩ := h
  have hf := A.few
  have hdl := dealR_len B Y R
  unfold t_short
  repeat lcg_off
  refine ⟨b, r, l, B, d, R, y, Y, rfl, A, hy, hYl, kE, fun hY q1 H1 hq1 e1 P1 => ?_⟩
  obtain ⟨xs, hx, pr⟩ := P1.ex
  have hxl := paired_len pr
  have pr2 : Paired (fun v (x : Rw × Int) => PrV H1 v (x.1.n, x.2)) xs (dealR B Y R) := by
    unfold dealtM at pr
    exact paired_unmap pr
  have hl : xs.length = R.length := by rw [paired_len pr2, hdl]
  repeat lcg_off
  refine k_lcP (Ro := fun _ v n => v = .str n) (fun x => decide (x.2 < x.1.a)) (fun x => x.1.n) (SqL.of hx) pr2 (fun _ _ _ _ _ h => h) (fun x => rfl) (by omega) (fun v x hx' hv H2 ac QB q => ?_) (fun v x hx' hv _ H2 ac Q1 q => ?_) (fun D ws H2 hD e2 h2 pr3 => ?_)
  · obtain ⟨t, rfl, ht⟩ := hv
    have ht2 : H2 t = some (.tup [.str x.1.n, .int x.2]) := ac.g _ _ ht
    have A2 : BokAt c H2 b r l B d R := (A.ext e1).ext ac.ext
    repeat lcg_off
    refine k_meth A2.ob.choose_spec (by lcg_src) ?_
    repeat lcg_off
    have hwR := dealR_mem hx'
    refine ⟨b, r, l, B, d, R, x.1.n, rfl, A2, fun w' hw' e t' ht' => ?_, fun z => absurd (List.mem_map.mpr ⟨_, hwR, rfl⟩) z⟩
    obtain rfl := nodup_inj A2.nd hw' hwR e
    repeat lcg_off
    exact q H2 (Ext.refl _)
  · obtain ⟨t, rfl, ht⟩ := hv
    have ht2 : H2 t = some (.tup [.str x.1.n, .int x.2]) := ac.g _ _ ht
    repeat lcg_off
    exact q _ H2 (Ext.refl _) rfl
  · have e3 := paired_eq pr3
    refine k hY D H2 (e1.free hD) (e1.trans e2) ?_
    rw [h2, e3]
    rfl
theorem pure_dry (vs : List V) (H : Hp) (Q : VK) (E : XK) (h : sp_dry c vs H Q E) : t_dry c E { nx := fun _ H' => Q .non H', rt := Q } (start ["book", "year", "name", "lacking", "row", "flow", "point"] vs) H := by
  obtain ⟨b, r, l, B, d, R, y, Y, n, rfl, A, hy, hYl, hra, kE, kN, kS, k⟩ := h
  have hf := A.riv.ok.few
  unfold t_dry
  repeat lcg_off
  refine ⟨b, r, l, B, d, R, y, Y, rfl, A, hy, hYl, kE, fun hY q1 H1 hq1 e1 h1 => ?_⟩
  have A1 := A.ext e1
  repeat lcg_off
  refine k_meth A1.ob.choose_spec (by lcg_src) ?_
  repeat lcg_off
  refine ⟨b, r, l, B, d, R, n, rfl, A1, fun w hw hn t ht => ?_, fun hn => kN hY hn H1 e1⟩
  have hin : n ∈ R.map Rw.n := List.mem_map.mpr ⟨w, hw, hn⟩
  repeat lcg_off
  refine k_niL (SqL.of h1) rfl (all_flat_str _) ?_
  repeat lcg_off
  rw [inV_str]
  refine k_ifN (fun hs => ?_) (fun hs => ?_)
  · repeat lcg_off
    exact kS hY hin hs H1 e1
  repeat lcg_off
  refine ⟨b, r, l, B, d, R, y, Y, rfl, A1, e1.sq hy, hYl, fun z => absurd hY z, fun _ q2 H2 hq2 e2 h2 => ?_⟩
  have A2 := A1.ext e2
  have ht2 := e2.g _ _ ht
  have hwp := A.pts w hw
  repeat lcg_off
  refine k_meth A2.ob.choose_spec (by lcg_src) ?_
  repeat lcg_off
  refine ⟨b, r, l, B, d, R, rfl, A2, ?_⟩
  refine k_meth A2.riv.ob.choose_spec (by lcg_src) ?_
  repeat lcg_off
  refine ⟨r, l, B, w.p, rfl, A2.riv, fun p' e hp' => ?_, fun hn => absurd hn (by omega)⟩
  obtain rfl : p' = w.p := by omega
  intro wy H3 hwy e3 h3
  repeat lcg_off
  refine k_lcL (wayM B w.p) nV (fun q => decide (leftM B Y R q = 0)) nV (SqL.of h3) (fun x => rfl) (Nat.le_trans (wayM_len w.p) (by omega)) (fun x hx H4 ac QB q => ?_) (fun x hx _ H4 ac Q1 q => by (repeat lcg_off); exact q H4 (Ext.refl _)) (fun D H4 hD e4 h4 => ?_)
  · have := wayM_le w.p x hx
    repeat lcg_off
    refine k_ixL (SqL.of (ac.g _ _ (e3.g _ _ h2))) (fV_at (by omega)) ?_
    repeat lcg_off
    exact q H4 (Ext.refl _)
  · have hs' : w.n ∈ shortM B Y R := by rw [hn]; exact hs
    have hne := short_dry hY hra A.nd hw hs'
    have hh : ((wayM B w.p).filter fun q => decide (leftM B Y R q = 0)).head? = some (dryM B Y R w) := by
      unfold dryM
      cases e : (wayM B w.p).filter fun q => decide (leftM B Y R q = 0) with
      | nil => exact absurd e hne
      | cons x xs => rfl
    repeat lcg_off
    refine k_ixL (v := nV (dryM B Y R w)) (SqL.of h4) ?_ ?_
    · refine atI_nat (j := 0) ?_
      rw [List.getElem?_map, ← List.head?_eq_getElem?, hh]
      rfl
    · exact k hY w hw hn hs H4 (((e1.trans e2).trans e3).trans e4)
theorem pure_shut (vs : List V) (H : Hp) (Q : VK) (E : XK) (h : sp_shut c vs H Q E) : t_shut c E { nx := fun _ H' => Q .non H', rt := Q } (start ["book", "year", "name", "point", "names", "found", "other", "row"] vs) H := by
  obtain ⟨b, r, l, B, d, R, y, Y, n, rfl, A, hy, hYl, hra, kE, kN, kS, k⟩ := h
  have hf := A.few
  have hal := agedR_len R
  unfold t_shut
  repeat lcg_off
  refine ⟨b, r, l, B, d, R, y, Y, n, rfl, A, hy, hYl, hra, kE, kN, kS, fun hY w hw hn hs H1 e1 => ?_⟩
  have A1 := A.ext e1
  obtain ⟨j, hj, ej⟩ := List.getElem_of_mem (agedR_mem.mpr hw)
  have hjw : (agedR R)[j]? = some w := by rw [List.getElem?_eq_getElem hj, ej]
  have k' := k hY j w hjw hn hs
  repeat lcg_off
  refine k_meth A1.ob.choose_spec (by lcg_src) ?_
  repeat lcg_off
  refine ⟨b, r, l, B, d, R, rfl, A1, fun nm H2 hnm e2 h2 => ?_⟩
  have h2' : H2 nm = some (.lst (((agedR R).map Rw.n).map V.str)) := by rw [h2, List.map_map]; rfl
  repeat lcg_off
  intro fo H3 hfo e3 h3
  repeat lcg_off
  have h23 := e3.g _ _ h2'
  refine k_indexS (SqL.of h23) (agedR_nodup A.nd) (by rw [List.getElem?_map, hjw]; exact congrArg some hn) ?_
  repeat lcg_off
  have ec : (j : Int) + 1 = ((j + 1 : Nat) : Int) := by omega
  rw [ec]
  refine k_slL (SqL.of h23) fun sl H4 hsl e4 h4 => ?_
  rw [cutV_from (by rw [List.length_map, List.length_map]; omega)] at h4
  have h4' : H4 sl = some (.lst (((agedR R).drop (j + 1)).map fun w => .str w.n)) := by
    rw [h4, List.map_map, ← List.map_drop]
    rfl
  have e14 : Ext H1 H4 := (e2.trans e3).trans e4
  have nsf : sl ≠ fo := ne_fn hsl h3
  have ffo : H fo = none := e1.free (e2.free hfo)
  repeat lcg_off
  refine k_forL (fun i σ H' => (∃ v1 v2, σ = [some (.ref b), some (.ref y), some (.str n), some (nV (dryM B Y R w)), some (.ref nm), some (.ref fo), v1, v2]) ∧ Ac H1 H' ∧ But [fo] H4 H' ∧ H' fo = some (.lst (((((agedR R).drop (j + 1)).take i).filter fun u => decide (0 < u.a) && decide (dryM B Y R w ∈ wayM B u.p)).map fun u => .str u.n))) ⟨⟨_, _, rfl⟩, e14.ac, (Ext.refl _).but, e4.g _ _ h3⟩ (fun i σ H' _ p => SqL.of (p.2.2.1.g _ _ h4' (nin_cons nsf nin_nil))) ?_ ?_
  · rintro i v σ H5 hv ⟨⟨v1, v2, rfl⟩, ac5, b5, h5⟩
    rw [List.getElem?_map] at hv
    obtain ⟨u, hu, rfl⟩ := Option.map_eq_some_iff.mp hv
    have huR : u ∈ R := agedR_mem.mp (List.mem_of_mem_drop (List.mem_of_getElem? hu))
    have hi : i < ((agedR R).drop (j + 1)).length := by
      by_cases z : i < ((agedR R).drop (j + 1)).length
      · exact z
      · rw [List.getElem?_eq_none (by omega)] at hu
        cases hu
    have et : ((agedR R).drop (j + 1)).take (i + 1) = ((agedR R).drop (j + 1)).take i ++ [u] := by
      rw [List.take_succ_eq_append_getElem hi]
      rw [List.getElem?_eq_getElem hi] at hu
      rw [Option.some.inj hu]
    have A5 := A1.ext ac5.ext
    have hup := A.pts u huR
    rw [List.length_drop] at hi
    have hfl : ((((agedR R).drop (j + 1)).take i).filter fun u => decide (0 < u.a) && decide (dryM B Y R w ∈ wayM B u.p)).length ≤ i := Nat.le_trans (List.length_filter_le _ _) (by rw [List.length_take]; omega)
    rw [et, List.filter_append, List.map_append]
    generalize ((((agedR R).drop (j + 1)).take i).filter fun u => decide (0 < u.a) && decide (dryM B Y R w ∈ wayM B u.p)) = acc at h5 hfl
    show tSeq _ _ _ [some (.ref b), some (.ref y), some (.str n), some (nV (dryM B Y R w)), some (.ref nm), some (.ref fo), some (.str u.n), v2] _
    repeat lcg_off
    refine k_meth A5.ob.choose_spec (by lcg_src) ?_
    repeat lcg_off
    refine ⟨b, r, l, B, d, R, u.n, rfl, A5, fun u' hu' e t ht => ?_, fun z => absurd (List.mem_map.mpr ⟨u, huR, rfl⟩) z⟩
    obtain rfl := nodup_inj A.nd hu' huR e
    repeat lcg_off
    have no : ∀ H', Ext H5 H' → (decide (0 < u'.a) && decide (dryM B Y R w ∈ wayM B u'.p)) = false → ∃ v1 v2, [some (V.ref b), some (.ref y), some (.str n), some (nV (dryM B Y R w)), some (.ref nm), some (.ref fo), some (.str u'.n), some (.ref t)] = [some (.ref b), some (.ref y), some (.str n), some (nV (dryM B Y R w)), some (.ref nm), some (.ref fo), v1, v2] := fun _ _ _ => ⟨_, _, rfl⟩
    have nofl : (decide (0 < u'.a) && decide (dryM B Y R w ∈ wayM B u'.p)) = false → List.filter (fun u => decide (0 < u.a) && decide (dryM B Y R w ∈ wayM B u.p)) [u'] = [] := fun z => by
      rw [List.filter_cons, if_neg (by rw [z]; exact Bool.false_ne_true)]
      rfl
    refine k_andD (fun h6 => ?_) (fun h6 => ?_)
    · repeat lcg_off
      refine k_meth A5.ob.choose_spec (by lcg_src) ?_
      repeat lcg_off
      refine ⟨b, r, l, B, d, R, rfl, A5, ?_⟩
      refine k_meth A5.riv.ob.choose_spec (by lcg_src) ?_
      repeat lcg_off
      refine ⟨r, l, B, u'.p, rfl, A5.riv, fun p' e hp' => ?_, fun hn => absurd hn (by omega)⟩
      obtain rfl : p' = u'.p := by omega
      intro wy H6 hwy e6 h7
      refine k_inL (SqL.of h7) rfl (all_flat_nV _) ?_
      repeat lcg_off
      rw [inV_nV]
      refine k_ifD (fun h8 => ?_) (fun h8 => ?_)
      · repeat lcg_off
        intro H7 b7 h9
        repeat lcg_off
        refine ⟨⟨_, _, rfl⟩, (ac5.step e6).but b7 (frs_cons (e2.free hfo) frs_nil), (b5.step e6).trans b7, ?_⟩
        rw [h9, List.filter_cons, if_pos (by rw [decide_eq_true h6, decide_eq_true h8]; rfl)]
        rfl
      · repeat lcg_off
        have z : (decide (0 < u'.a) && decide (dryM B Y R w ∈ wayM B u'.p)) = false := by rw [decide_eq_false h8, Bool.and_false]
        refine ⟨⟨_, _, rfl⟩, ac5.step e6, b5.step e6, ?_⟩
        rw [e6.g _ _ h5, nofl z, List.map_nil, List.append_nil]
    · repeat lcg_off
      have z : (decide (0 < u'.a) && decide (dryM B Y R w ∈ wayM B u'.p)) = false := by rw [decide_eq_false h6, Bool.false_and]
      refine ⟨⟨_, _, rfl⟩, ac5, b5, ?_⟩
      rw [h5, nofl z, List.map_nil, List.append_nil]
  · rintro σ H5 ⟨⟨v1, v2, rfl⟩, ac5, b5, h5⟩
    repeat lcg_off
    rw [List.length_map, List.take_length] at h5
    refine k' fo H5 ffo (e1.trans ac5.ext) ?_
    rw [h5, List.map_map]
    rfl
end
end Rv

end
section
namespace Rv
open PySem L2
/-! ### sums over lists -/
def sumL {α : Type} : List α → (α → Int) → Int
  | [], _ => 0
  | x :: l, f => f x + sumL l f
theorem sumL_app {α : Type} (f : α → Int) : ∀ l m : List α, sumL (l ++ m) f = sumL l f + sumL m f
  | [], m => (Int.zero_add _).symm
  | x :: l, m => by
    show f x + sumL (l ++ m) f = f x + sumL l f + sumL m f
    rw [sumL_app f l m]
    omega
theorem sumL_congr {α : Type} {f g : α → Int} : ∀ {l : List α}, (∀ x ∈ l, f x = g x) → sumL l f = sumL l g
  | [], _ => rfl
  | x :: l, h => by
    show f x + sumL l f = g x + sumL l g
    rw [h x List.mem_cons_self, sumL_congr fun y hy => h y (List.mem_cons_of_mem _ hy)]
theorem sumL_map {α β : Type} (f : β → Int) (g : α → β) : ∀ l : List α, sumL (l.map g) f = sumL l fun x => f (g x)
  | [] => rfl
  | x :: l => by
    show f (g x) + sumL (l.map g) f = _
    rw [sumL_map f g l]
    rfl
theorem sumL_sum (l : List Int) : l.sum = sumL l fun x => x := by
  induction l with
  | nil => rfl
  | cons x l ih => rw [List.sum_cons, ih]; rfl
theorem zero_way2 (B : List Nat) : ∀ p, 0 ∈ wayM B p := by
  intro p
  induction p using Nat.strongRecOn with
  | _ p ih =>
    cases p with
    | zero => rw [wayM_zero]; exact List.mem_cons_self
    | succ n =>
      rw [wayM]
      exact List.mem_cons_of_mem _ (ih _ (by omega))
theorem sumR_first (f : Nat → Int) : ∀ n, sumR (n + 1) f = f 0 + sumR n fun i => f (i + 1)
  | 0 => by
    show (0 : Int) + f 0 = f 0 + 0
    omega
  | n + 1 => by
    show sumR (n + 1) f + f (n + 1) = f 0 + (sumR n _ + f (n + 1))
    rw [sumR_first f n]
    omega
theorem sumR_list : ∀ Y : List Int, sumR Y.length (fun p => Y.getD p 0) = Y.sum
  | [] => rfl
  | y :: Y => by
    rw [List.length_cons, sumR_first, List.sum_cons, ← sumR_list Y]
    rfl
/-- what is taken at a point -/
def takenM (D : List (Rw × Int)) (q : Nat) : Int := sumL D fun x => if x.1.p = q then x.2 else 0
theorem sumR_eq {f : Nat → Int} {n k : Nat} {v : Int} (hk : k < n) (h : ∀ i, i < n → f i = if k = i then v else 0) : sumR n f = v := by
  rw [sumR_congr h]
  exact sumR_one (fun _ => v) k n hk
/-- flows behind takings -/
theorem flow_taken {B : List Nat} (net : Nat → Int) (q : Nat) : ∀ {D : List (Rw × Int)}, (∀ x ∈ D, x.1.p ≤ B.length) → flowM B (fun p => net p - takenM D p) q = flowM B net q - sumL D fun x => if q ∈ wayM B x.1.p then x.2 else 0
  | [], _ => by
    show sumR _ _ = sumR _ _ - 0
    rw [Int.sub_zero]
    refine sumR_congr fun p _ => ?_
    by_cases z : q ∈ wayM B p
    · rw [if_pos z, if_pos z]
      exact Int.sub_zero _
    · rw [if_neg z, if_neg z]
  | x :: D, h => by
    have ih := flow_taken net q (D := D) fun y hy => h y (List.mem_cons_of_mem _ hy)
    have hx := h x List.mem_cons_self
    have e1 : flowM B (fun p => net p - takenM (x :: D) p) q = flowM B (fun p => net p - takenM D p) q - if q ∈ wayM B x.1.p then x.2 else 0 := by
      have e2 : (if q ∈ wayM B x.1.p then x.2 else 0) = sumR (B.length + 1) fun p => if x.1.p = p then (if q ∈ wayM B p then x.2 else 0) else 0 := by
        rw [sumR_one (fun p => if q ∈ wayM B p then x.2 else 0) x.1.p (B.length + 1) (by omega)]
      rw [e2]
      unfold flowM
      rw [← sumR_sub]
      refine sumR_congr fun p _ => ?_
      have e3 : takenM (x :: D) p = (if x.1.p = p then x.2 else 0) + takenM D p := rfl
      show (if q ∈ wayM B p then net p - takenM (x :: D) p else 0) = (if q ∈ wayM B p then net p - takenM D p else 0) - _
      rw [e3]
      by_cases z : q ∈ wayM B p
      · rw [if_pos z, if_pos z, if_pos z]
        omega
      · rw [if_neg z, if_neg z, if_neg z]
        by_cases y : x.1.p = p
        · rw [if_pos y]; rfl
        · rw [if_neg y]; rfl
    rw [e1, ih]
    show _ = flowM B net q - ((if q ∈ wayM B x.1.p then x.2 else 0) + sumL D _)
    omega
theorem serv_flow {B : List Nat} (q : Nat) : ∀ (W : List Wnt) (f : Nat → Int), (servM B f W).2 q = f q - sumL (W.zip (servM B f W).1) fun x => if q ∈ wayM B x.1.1 then x.2 else 0
  | [], f => (Int.sub_zero _).symm
  | y :: W, f => by
    have ih := serv_flow (B := B) q W (lessM B f y.1 (takeM B f y.1 y.2))
    show (servM B _ W).2 q = f q - ((if q ∈ wayM B y.1 then takeM B f y.1 y.2 else 0) + sumL (W.zip (servM B _ W).1) _)
    rw [ih]
    have e : lessM B f y.1 (takeM B f y.1 y.2) q = f q - if q ∈ wayM B y.1 then takeM B f y.1 y.2 else 0 := by
      unfold lessM
      by_cases z : q ∈ wayM B y.1
      · rw [if_pos z, if_pos z]
      · rw [if_neg z, if_neg z, Int.sub_zero]
    rw [e]
    omega
theorem serv_take_k {B : List Nat} : ∀ {W : List Wnt} {f : Nat → Int} (k : Nat), (servM B f (W.take k)).1 = (servM B f W).1.take k
  | [], _, k => by
    rw [List.take_nil]
    show ([] : List Int) = List.take k []
    rw [List.take_nil]
  | y :: W, f, 0 => rfl
  | y :: W, f, k + 1 => by
    show _ :: (servM B _ (W.take k)).1 = _ :: (servM B _ W).1.take k
    rw [serv_take_k]
theorem zip_wnt : ∀ (L : List Rw) (T : List Int), (L.map wntM).zip T = (L.zip T).map fun x => (wntM x.1, x.2)
  | [], _ => rfl
  | _ :: _, [] => rfl
  | x :: L, t :: T => by
    show (wntM x, t) :: (L.map wntM).zip T = (wntM x, t) :: (L.zip T).map _
    rw [zip_wnt L T]
/-- .. of any row of rights -/
theorem serv_is {B : List Nat} {Y : List Int} {L : List Rw} (hp : ∀ w ∈ L, w.p ≤ B.length) (q : Nat) : (servM B (f0M B Y) (L.map wntM)).2 q = flowM B (fun p => Y.getD p 0 - takenM (L.zip (servM B (f0M B Y) (L.map wntM)).1) p) q := by
  rw [flow_taken _ _ fun x hx => hp _ (List.of_mem_zip hx).1]
  rw [serv_flow, zip_wnt, sumL_map]
  rfl
/-- the flow told is what comes in less what is taken as told -/
theorem left_is {B : List Nat} {Y : List Int} {R : List Rw} (hp : ∀ w ∈ R, w.p ≤ B.length) (q : Nat) : leftM B Y R q = flowM B (fun p => Y.getD p 0 - takenM (dealR B Y R) p) q := by
  rw [flow_taken _ _ fun x hx => hp _ (dealR_mem hx)]
  unfold leftM
  rw [serv_flow, zip_wnt, sumL_map]
  rfl
theorem netM_fI {Y : List Int} {n : Nat} {f : Nat → Int} {p : Nat} (h : p < n) : netM Y (fI n f) p = Y.getD p 0 - f p := by
  unfold netM
  rw [fI_get h]
theorem flowM_congr {B : List Nat} {f g : Nat → Int} (h : ∀ p, p < B.length + 1 → f p = g p) (q : Nat) : flowM B f q = flowM B g q := sumR_congr fun p hp => by rw [h p hp]
def encP (x : Str × Int) : PyData := .tuple [.str x.1, .int x.2]
theorem encP_laid {x : Str × Int} (h : PyData.strOk x.1 = true) : laid (encP x) 1 := by
  unfold encP
  exact ⟨by simp [PyData.canLay0, PyData.canLayAll0, h], by simp [PyData.depth, PyData.depthAll]⟩
theorem dpAll_prs {K : PySem.W.Frag} {H : Hp} : ∀ {xs : List V} {L : List (Str × Int)}, Paired (PrV H) xs L → DpAll K H xs (L.map encP)
  | _, _, .nil => .nil
  | _, _, .cons r t => by
    obtain ⟨t', e, h⟩ := r
    subst e
    exact .cons (.tup (SqT.of h) (.cons (.str _) (.cons (.int _) .nil))) (dpAll_prs t)
theorem laid_prs {L : List (Str × Int)} (h : ∀ x ∈ L, PyData.strOk x.1 = true) : laid (.list (L.map encP)) 2 := laid_list fun d hd => by
  obtain ⟨x, hx, rfl⟩ := List.mem_map.mp hd
  exact encP_laid (h x hx)
theorem laid_strs {NS : List Str} (h : ∀ s ∈ NS, PyData.strOk s = true) : laid (.list ((NS.map V.str).map dV)) 1 := laid_list fun d hd => by
  obtain ⟨v, hv, rfl⟩ := List.mem_map.mp hd
  obtain ⟨s, hs, rfl⟩ := List.mem_map.mp hv
  exact ⟨by simp only [dV, PyData.canLay0, h s hs], by simp only [dV, PyData.depth]; exact Nat.le_refl _⟩
theorem dealt_names (B : List Nat) (Y : List Int) (R : List Rw) : (dealtM B Y R).map Prod.fst = (agedR R).map Rw.n := by
  unfold dealtM
  rw [List.map_map]
  show (dealR B Y R).map (Rw.n ∘ Prod.fst) = _
  rw [← List.map_map]
  unfold dealR
  rw [List.map_fst_zip (by rw [agedR_len, takesM_len]; exact Nat.le_refl _)]
theorem k_sum {K : PySem.W.Frag} {H : Hp} {Q : VK} {a : Addr} {ns : List Int} (h : SqL K H a (ns.map V.int)) (q : Q (.int ns.sum) H) : rSum K [.ref a] H Q := ⟨a, ns, rfl, h, q⟩
def sp_l_pairs (c : Cs) : Sp := fun vs H Q E => ∃ a b L M, vs = [.ref a, .ref b] ∧ PrsAt H a L ∧ PrsAt H b M ∧ M.length ≤ 1000 ∧ ∀ H', Ext H H' → Q (.bl (decide (L = M))) H'
def sp_l_taken (c : Cs) : Sp := fun vs H Q E => ∃ (a p : Addr) (D : List (Rw × Int)) (R : List Rw) (n : Nat), vs = [.ref a, .ref p, .int (n : Int)] ∧ PrsAt H a (D.map fun x => (x.1.n, x.2)) ∧ RtsAt H p R ∧ (R.map Rw.n).Nodup ∧ n ≤ 1000 ∧ (∀ x ∈ D, x.1 ∈ R) ∧ (∀ w ∈ R, w.p < n) ∧
  ∀ q H', H q = none → Ext H H' → H' q = some (.lst (fV n (takenM D))) → Q (.ref q) H'
end Rv
local macro_rules | `(tactic| lcg_src) => `(tactic| first
  | assumption
  | (with_reducible exact Rv.lk_here)
  | (refine (Rv.lk_past (by decide +kernel)).trans ?_; lcg_src)
  | (with_unfolding_all exact rfl))
local macro_rules | `(tactic| keq_hits) => `(tactic| first
  | assumption
  | ((with_reducible apply Rv.Ext.hl); (focus assumption); (focus keq_hits))
  | ((with_reducible apply Rv.But.hl); (focus assumption); (focus keq_hits); (focus keq_hits))
  | ((with_reducible apply Rv.Ac.hl); (focus assumption); (focus keq_hits))
  | ((with_reducible apply L2.SqL.of); (focus assumption))
  | ((with_reducible apply Rv.Ext.sq); (focus assumption); (focus keq_hits))
  | ((with_reducible apply Rv.But.sq); (focus assumption); (focus keq_hits); (focus keq_hits))
  | ((with_reducible apply Rv.Ac.sq); (focus assumption); (focus keq_hits))
  | ((with_reducible apply L2.SqT.of); (focus assumption))
  | ((with_reducible apply Rv.Ext.st); (focus assumption); (focus keq_hits))
  | ((with_reducible apply Rv.But.st); (focus assumption); (focus keq_hits); (focus keq_hits))
  | ((with_reducible apply Rv.Ac.st); (focus assumption); (focus keq_hits))
  | ((with_reducible apply L2.Rd.of); (focus keq_hits))
  | ((with_reducible apply Rv.RivAt.ext); (focus assumption); (focus keq_hits))
  | ((with_reducible apply Rv.RivAt.but); (focus assumption); (focus keq_hits); (focus keq_hits); (focus keq_hits))
  | ((with_reducible apply Rv.RivAt.ac); (focus assumption); (focus keq_hits))
  | (with_reducible apply Rv.nin_nil)
  | ((with_reducible apply Rv.BokAt.ext); (focus assumption); (focus keq_hits))
  | ((with_reducible apply Rv.DicAt.ne); (focus assumption); (focus assumption); (focus (intro _ z; cases z)))
  | ((with_reducible apply Rv.DicAt.nf); (focus assumption); (focus assumption))
  | ((with_reducible apply Rv.Ext.tup); (focus assumption))
  | ((with_reducible apply Rv.Ac.tup); (focus assumption))
  | ((with_reducible apply Rv.nin_cons); (focus keq_hits); (focus keq_hits))
  | (with_reducible apply Rv.frs_nil)
  | ((with_reducible apply Rv.frs_cons); (focus keq_hits); (focus keq_hits))
  | ((with_reducible apply Ne.symm); (focus assumption))
  | ((with_reducible apply Rv.ne_nf); (focus assumption); (focus assumption))
  | ((with_reducible apply Rv.ne_fn); (focus assumption); (focus assumption))
  | ((with_reducible apply Rv.ne_k1); (focus assumption); (focus assumption); (focus (first | (intro z; cases z; done) | ((with_reducible apply Rv.ins_ne); intro z; cases z; done))))
  | ((with_reducible apply Rv.ne_k2); (focus assumption); (focus assumption); (focus (first | (intro z; cases z; done) | ((with_reducible apply Rv.ins_ne); intro z; cases z; done))))
  | ((with_reducible apply Rv.free2); (focus assumption); (focus assumption))
  | (with_reducible apply Rv.Ac.refl)
  | ((with_reducible apply Rv.Ac.step'); (focus assumption); (focus keq_hits))
  | ((with_reducible apply Rv.Ac.but'); (focus assumption); (focus keq_hits); (focus keq_hits))
  | (with_reducible apply Rv.Ext.refl)
  | ((with_reducible apply Rv.Ac.ext); (focus keq_hits))
  | ((with_reducible apply Rv.sz_le); first | omega | (simp only [List.length_cons, List.length_nil, List.length_map, List.length_append]; omega))
  | ((with_reducible apply Rv.sz_lt); first | omega | (simp only [List.length_cons, List.length_nil, List.length_map, List.length_append]; omega)))
local macro_rules | `(tactic| kln_le) => `(tactic| first
  | assumption
  | ((with_reducible apply Rv.Ext.hl); (focus assumption); (focus kln_le))
  | ((with_reducible apply Rv.But.hl); (focus assumption); (focus kln_le); (focus kln_le))
  | ((with_reducible apply Rv.Ac.hl); (focus assumption); (focus kln_le))
  | ((with_reducible apply L2.SqL.of); (focus assumption))
  | ((with_reducible apply Rv.Ext.sq); (focus assumption); (focus kln_le))
  | ((with_reducible apply Rv.But.sq); (focus assumption); (focus kln_le); (focus kln_le))
  | ((with_reducible apply Rv.Ac.sq); (focus assumption); (focus kln_le))
  | ((with_reducible apply L2.SqT.of); (focus assumption))
  | ((with_reducible apply Rv.Ext.st); (focus assumption); (focus kln_le))
  | ((with_reducible apply Rv.But.st); (focus assumption); (focus kln_le); (focus kln_le))
  | ((with_reducible apply Rv.Ac.st); (focus assumption); (focus kln_le))
  | ((with_reducible apply L2.Rd.of); (focus kln_le))
  | ((with_reducible apply Rv.RivAt.ext); (focus assumption); (focus kln_le))
  | ((with_reducible apply Rv.RivAt.but); (focus assumption); (focus kln_le); (focus kln_le); (focus kln_le))
  | ((with_reducible apply Rv.RivAt.ac); (focus assumption); (focus kln_le))
  | (with_reducible apply Rv.nin_nil)
  | ((with_reducible apply Rv.BokAt.ext); (focus assumption); (focus kln_le))
  | ((with_reducible apply Rv.DicAt.ne); (focus assumption); (focus keq_hits); (focus (intro _ z; cases z)))
  | ((with_reducible apply Rv.DicAt.nf); (focus assumption); (focus keq_hits))
  | ((with_reducible apply Rv.Ext.tup); (focus assumption))
  | ((with_reducible apply Rv.Ac.tup); (focus assumption))
  | ((with_reducible apply Rv.nin_cons); (focus kln_le); (focus kln_le))
  | (with_reducible apply Rv.frs_nil)
  | ((with_reducible apply Rv.frs_cons); (focus kln_le); (focus kln_le))
  | ((with_reducible apply Ne.symm); (focus assumption))
  | ((with_reducible apply Rv.ne_nf); (focus assumption); (focus keq_hits))
  | ((with_reducible apply Rv.ne_fn); (focus assumption); (focus keq_hits))
  | ((with_reducible apply Rv.ne_k1); (focus assumption); (focus keq_hits); (focus (first | (intro z; cases z; done) | ((with_reducible apply Rv.ins_ne); intro z; cases z; done))))
  | ((with_reducible apply Rv.ne_k2); (focus assumption); (focus keq_hits); (focus (first | (intro z; cases z; done) | ((with_reducible apply Rv.ins_ne); intro z; cases z; done))))
  | ((with_reducible apply Rv.free2); (focus assumption); (focus keq_hits))
  | (with_reducible apply Rv.Ac.refl)
  | ((with_reducible apply Rv.Ac.step'); (focus assumption); (focus kln_le))
  | ((with_reducible apply Rv.Ac.but'); (focus assumption); (focus kln_le); (focus kln_le))
  | (with_reducible apply Rv.Ext.refl)
  | ((with_reducible apply Rv.Ac.ext); (focus kln_le))
  | ((with_reducible apply Rv.sz_le); first | omega | (simp only [List.length_cons, List.length_nil, List.length_map, List.length_append]; omega))
  | ((with_reducible apply Rv.sz_lt); first | omega | (simp only [List.length_cons, List.length_nil, List.length_map, List.length_append]; omega)))
local macro_rules | `(tactic| lcg_sub) => `(tactic| first
  | assumption
  | ((with_reducible apply Rv.Ext.hl); (focus assumption); (focus lcg_sub))
  | ((with_reducible apply Rv.But.hl); (focus assumption); (focus lcg_sub); (focus lcg_sub))
  | ((with_reducible apply Rv.Ac.hl); (focus assumption); (focus lcg_sub))
  | ((with_reducible apply L2.SqL.of); (focus assumption))
  | ((with_reducible apply Rv.Ext.sq); (focus assumption); (focus lcg_sub))
  | ((with_reducible apply Rv.But.sq); (focus assumption); (focus lcg_sub); (focus lcg_sub))
  | ((with_reducible apply Rv.Ac.sq); (focus assumption); (focus lcg_sub))
  | ((with_reducible apply L2.SqT.of); (focus assumption))
  | ((with_reducible apply Rv.Ext.st); (focus assumption); (focus lcg_sub))
  | ((with_reducible apply Rv.But.st); (focus assumption); (focus lcg_sub); (focus lcg_sub))
  | ((with_reducible apply Rv.Ac.st); (focus assumption); (focus lcg_sub))
  | ((with_reducible apply L2.Rd.of); (focus lcg_sub))
  | ((with_reducible apply Rv.RivAt.ext); (focus assumption); (focus lcg_sub))
  | ((with_reducible apply Rv.RivAt.but); (focus assumption); (focus lcg_sub); (focus lcg_sub); (focus lcg_sub))
  | ((with_reducible apply Rv.RivAt.ac); (focus assumption); (focus lcg_sub))
  | (with_reducible apply Rv.nin_nil)
  | ((with_reducible apply Rv.BokAt.ext); (focus assumption); (focus lcg_sub))
  | ((with_reducible apply Rv.DicAt.ne); (focus assumption); (focus kln_le); (focus (intro _ z; cases z)))
  | ((with_reducible apply Rv.DicAt.nf); (focus assumption); (focus kln_le))
  | ((with_reducible apply Rv.Ext.tup); (focus assumption))
  | ((with_reducible apply Rv.Ac.tup); (focus assumption))
  | ((with_reducible apply Rv.nin_cons); (focus lcg_sub); (focus lcg_sub))
  | (with_reducible apply Rv.frs_nil)
  | ((with_reducible apply Rv.frs_cons); (focus lcg_sub); (focus lcg_sub))
  | ((with_reducible apply Ne.symm); (focus assumption))
  | ((with_reducible apply Rv.ne_nf); (focus assumption); (focus kln_le))
  | ((with_reducible apply Rv.ne_fn); (focus assumption); (focus kln_le))
  | ((with_reducible apply Rv.ne_k1); (focus assumption); (focus kln_le); (focus (first | (intro z; cases z; done) | ((with_reducible apply Rv.ins_ne); intro z; cases z; done))))
  | ((with_reducible apply Rv.ne_k2); (focus assumption); (focus kln_le); (focus (first | (intro z; cases z; done) | ((with_reducible apply Rv.ins_ne); intro z; cases z; done))))
  | ((with_reducible apply Rv.free2); (focus assumption); (focus kln_le))
  | (with_reducible apply Rv.Ac.refl)
  | ((with_reducible apply Rv.Ac.step'); (focus assumption); (focus lcg_sub))
  | ((with_reducible apply Rv.Ac.but'); (focus assumption); (focus lcg_sub); (focus lcg_sub))
  | (with_reducible apply Rv.Ext.refl)
  | ((with_reducible apply Rv.Ac.ext); (focus lcg_sub))
  | ((with_reducible apply Rv.sz_le); first | omega | (simp only [List.length_cons, List.length_nil, List.length_map, List.length_append]; omega))
  | ((with_reducible apply Rv.sz_lt); first | omega | (simp only [List.length_cons, List.length_nil, List.length_map, List.length_append]; omega)))
local macro_rules | `(tactic| lcg_off) => `(tactic| first
  | (with_reducible apply Rv.r_seq)
  | (with_reducible apply Rv.r_asg)
  | (with_reducible apply Rv.r_op)
  | ((with_reducible apply Rv.r_var); (focus with_unfolding_all rfl))
  | (with_reducible apply Rv.r_c)
  | (with_reducible apply Rv.r_if)
  | (with_reducible apply Rv.r_test)
  | (with_reducible apply Rv.r_fld)
  | (with_reducible apply Rv.r_cons)
  | (with_reducible apply Rv.r_nil)
  | (with_reducible apply Rv.r_ret)
  | (with_reducible apply Rv.r_drop)
  | (with_reducible apply Rv.r_meth)
  | (with_reducible apply Rv.r_fn)
  | (with_reducible apply Rv.r_CB)
  | (with_reducible apply Rv.r_BM)
  | (with_reducible apply Rv.r_BM0)
  | (with_reducible apply Rv.k_bl)
  | (with_reducible apply Rv.r_not)
  | (with_reducible apply Rv.r_and)
  | (with_reducible apply Rv.r_or)
  | (with_reducible apply Rv.k_andT)
  | (with_reducible apply Rv.k_andF)
  | (with_reducible apply Rv.k_orT)
  | (with_reducible apply Rv.k_orF)
  | (with_reducible apply Rv.r_tB)
  | (with_reducible apply Rv.r_chain)
  | (with_reducible apply Rv.r_un)
  | (with_reducible apply Rv.r_tup)
  | (with_reducible apply Rv.r_lst)
  | (with_reducible apply Rv.r_andV)
  | (with_reducible apply Rv.r_orV)
  | (with_reducible apply Rv.r_notV)
  | (with_reducible apply Rv.r_ifE)
  | (with_reducible apply Rv.k_notV)
  | (with_reducible apply Rv.k_andVT)
  | (with_reducible apply Rv.k_andVF)
  | (with_reducible apply Rv.k_orVT)
  | (with_reducible apply Rv.k_orVF)
  | (with_reducible apply Rv.k_addI)
  | (with_reducible apply Rv.k_subI)
  | ((with_reducible apply Rv.k_mulI); (focus (unfold L2.CMul; omega)))
  | ((with_reducible apply Rv.k_divI); (focus (unfold L2.CDiv; omega)))
  | ((with_reducible apply Rv.k_modI); (focus omega))
  | ((with_reducible apply Rv.k_powI); (focus (unfold L2.CPow; decide)))
  | (with_reducible apply Rv.k_negI)
  | (with_reducible apply Rv.k_ltI)
  | (with_reducible apply Rv.k_leI)
  | (with_reducible apply Rv.k_gtI)
  | (with_reducible apply Rv.k_geI)
  | (with_reducible apply Rv.k_eqI)
  | (with_reducible apply Rv.k_neI)
  | (with_reducible apply Rv.k_eqS)
  | (with_reducible apply Rv.k_neS)
  | (with_reducible apply Rv.k_isNN)
  | (with_reducible apply Rv.k_isNI)
  | (with_reducible apply Rv.k_isNR)
  | (with_reducible apply Rv.k_notNN)
  | (with_reducible apply Rv.k_notNI)
  | (with_reducible apply Rv.k_notNR)
  | ((with_reducible apply Rv.k_tyL); (focus lcg_sub))
  | ((with_reducible apply Rv.k_ixT); (focus lcg_sub); (focus with_unfolding_all rfl))
  | ((with_reducible apply Rv.k_ixL); (focus lcg_sub); (focus with_unfolding_all rfl))
  | ((with_reducible apply Rv.k_lenL); (focus lcg_sub))
  | ((with_reducible apply Rv.k_lenU); (focus lcg_sub))
  | ((with_reducible apply Rv.k_tup); (focus lcg_sub))
  | ((with_reducible apply Rv.k_lst); (focus lcg_sub))
  | ((with_reducible apply Rv.k_list); (focus lcg_sub))
  | ((with_reducible apply Rv.k_append); (focus lcg_sub); (focus lcg_sub))
  | ((with_reducible apply Rv.k_cat); (focus lcg_sub); (focus lcg_sub); (focus lcg_sub))
  | ((with_reducible apply Rv.k_clear); (focus lcg_sub))
  | (with_reducible apply Rv.k_int1)
  | (with_reducible apply Rv.k_max2)
  | (with_reducible apply Rv.k_min2)
  | (with_reducible apply Rv.k_str)
  | (with_reducible apply Rv.k_part)
  | (with_reducible apply Rv.r_M1)
  | (with_reducible apply Rv.r_dget)
  | (with_reducible apply Rv.r_din)
  | (with_reducible apply Rv.r_dnotin)
  | (with_reducible apply Rv.r_dget2)
  | (with_reducible apply Rv.r_sl)
  | (with_reducible apply Rv.r_nopart)
  | (with_reducible apply Rv.r_part)
  | (with_reducible apply Rv.r_for)
  | (with_reducible apply Rv.r_lc)
  | (with_reducible apply Rv.r_yes)
  | (with_reducible apply Rv.r_iList)
  | (with_reducible apply Rv.r_iRng1)
  | (with_reducible apply Rv.r_iRng2)
  | (with_reducible apply Rv.r_iZip)
  | (with_reducible apply Rv.r_iStr)
  | (with_reducible apply Rv.r_iKeys)
  | (with_reducible apply Rv.r_lstRg)
  | ((with_reducible apply Rv.k_itl); (focus lcg_sub))
  | ((with_reducible apply Rv.k_zip); (focus lcg_sub); (focus lcg_sub))
  | ((with_reducible apply Rv.k_rng1); (focus omega))
  | ((with_reducible apply Rv.k_rng2); (focus omega))
  | (with_reducible apply Rv.k_its)
  | (with_reducible apply Rv.r_retN)
  | (with_reducible apply Rv.r_next)
  | (with_reducible apply Rv.r_setF)
  | (with_reducible apply Rv.r_dput)
  | (with_reducible apply Rv.r_setI)
  | (with_reducible apply Rv.r_raise)
  | (with_reducible apply Rv.r_wF)
  | (with_reducible apply Rv.k_ifTT)
  | (with_reducible apply Rv.k_ifFF)
  | (with_reducible apply Rv.k_ifNT)
  | (with_reducible apply Rv.k_ifNF)
  | (with_reducible apply Rv.k_andNT)
  | (with_reducible apply Rv.k_andNF)
  | (with_reducible apply Rv.k_orNT)
  | (with_reducible apply Rv.k_orNF)
  | (with_reducible apply Rv.k_andVNT)
  | (with_reducible apply Rv.k_andVNF)
  | (with_reducible apply Rv.k_orVNT)
  | (with_reducible apply Rv.k_orVNF)
  | (with_reducible apply Rv.k_isB_ii)
  | (with_reducible apply Rv.k_isB_ib)
  | (with_reducible apply Rv.k_isB_bi)
  | (with_reducible apply Rv.k_isB_bb)
  | (with_reducible apply Rv.k_isB_ni)
  | (with_reducible apply Rv.k_isB_ss)
  | ((with_reducible apply Rv.k_isB_ll); (focus lcg_sub))
  | ((with_reducible apply Rv.k_isB_tt); (focus lcg_sub))
  | (with_reducible apply Rv.r_mk)
  | (with_reducible apply Rv.r_rg1)
  | (with_reducible apply Rv.k_rg1)
  | (with_reducible apply Rv.r_dpop1)
  | (with_reducible apply Rv.k_ifNNT)
  | (with_reducible apply Rv.k_ifNNF)
  | (with_reducible apply Rv.r_dropE)
  | (with_reducible apply Rv.r_dropR)
  | (with_reducible apply Rv.r_dropN)
  | (with_reducible apply Rv.r_dropM))
namespace Rv
open PySem L2
-- l_pairs: 0 found 1 due 2 pair 3 own
def t_l_pairs (c : Cs) (E : XK) : TS :=
  (tSeq (tIfS (tOr (tNot (tB (tCB (rIsB c.K "list") (tCons (tVar 0) (tCons (tC (.ty "list")) tNil))))) (tTest (tOp rNe (tCB (rLenS c.K) (tCons (tVar 0) tNil)) (tCB (rLenS c.K) (tCons (tVar 1) tNil))))) (tRet (tC (.bl false))) tNext)
  (tSeq (tFor (iZip c.K (tCons (tVar 0) (tCons (tVar 1) tNil))) (gTup c.K 2 (gCons (gName 2) (gCons (gName 3) gNil)))
  (tSeq (tIfS (tOr (tNot (tB (tCB (rIsB c.K "tuple") (tCons (tVar 2) (tCons (tC (.ty "tuple")) tNil))))) (tOr (tTest (tOp rNe (tCB (rLenS c.K) (tCons (tVar 2) tNil)) (tC (.int 2)))) (tOr (tNot (tB (tCB (rIsB c.K "str") (tCons (tOp (rIxT c.K) (tVar 2) (tC (.int 0))) (tCons (tC (.ty "str")) tNil))))) (tNot (tB (tFn (sp_l_whole c) (wF E) (tCons (tOp (rIxT c.K) (tVar 2) (tC (.int 1))) tNil))))))) (tRet (tC (.bl false))) tNext)
  (tIfS (tOr (tTest (tOp rNe (tOp (rIxT c.K) (tVar 2) (tC (.int 0))) (tOp (rIxT c.K) (tVar 3) (tC (.int 0))))) (tTest (tOp rNe (tOp (rIxT c.K) (tVar 2) (tC (.int 1))) (tOp (rIxT c.K) (tVar 3) (tC (.int 1)))))) (tRet (tC (.bl false))) tNext)))
  (tRet (tC (.bl true)))))
-- l_taken: 0 pairs 1 rights 2 size 3 taken 4 k 5 pair 6 right
def t_l_taken (c : Cs) (E : XK) : TS :=
  (tSeq (tAsg (tLc (iRng1 (tCons (tVar 2) tNil)) (gName 4) tYes (tC (.int 0)) [4]) (gName 3))
  (tSeq (tFor (iList c.K (tVar 0)) (gName 5)
  (tFor (iList c.K (tVar 1)) (gName 6)
  (tIfS (tTest (tOp rEq (tOp (rIxT c.K) (tVar 6) (tC (.int 0))) (tOp (rIxT c.K) (tVar 5) (tC (.int 0))))) (tAsg (tOp rAddI (tOp (rIxL c.K) (tVar 3) (tOp (rIxT c.K) (tVar 6) (tC (.int 1)))) (tOp (rIxT c.K) (tVar 5) (tC (.int 1)))) (gSub (tVar 3) (tOp (rIxT c.K) (tVar 6) (tC (.int 1))) rSetL)) tNext)))
  (tRet (tVar 3))))
section
variable {c : Cs}
theorem pure_l_pairs (vs : List V) (H : Hp) (Q : VK) (E : XK) (h : sp_l_pairs c vs H Q E) : t_l_pairs c E { nx := fun _ H' => Q .non H', rt := Q } (start ["found", "due", "pair", "own"] vs) H := by
  obtain ⟨a, b, L, M, rfl, ⟨xs, ha, pa⟩, ⟨ys, hb, pb⟩, hl, k⟩ := h
  have hxl := paired_len pa
  have hyl := paired_len pb
  have bad : L ≠ M → ∀ H', Ext H H' → Q (.bl false) H' := fun z H' e => by
    have := k H' e
    rw [decide_eq_false z] at this
    exact this
  unfold t_l_pairs
  repeat lcg_off
  refine k_ifN (fun h1 => ?_) (fun h1 => ?_)
  · repeat lcg_off
    exact bad (fun z => h1 (by rw [hxl, hyl, z])) H (Ext.refl _)
  have hLM : L.length = M.length := by omega
  repeat lcg_off
  refine k_forZ (n := L.length) (by omega) (fun i σ H' => (∃ v w, σ = [some (.ref a), some (.ref b), v, w]) ∧ Ac H H' ∧ ∀ j : Nat, j < i → L[j]? = M[j]?) ⟨⟨_, _, rfl⟩, Ac.refl _, fun j hj => absurd hj (Nat.not_lt_zero _)⟩ (fun i σ H' _ p => ⟨p.2.1.sq (SqL.of ha), p.2.1.sq (SqL.of hb)⟩) ?_ ?_
  · rintro i x y σ H' H2 hx hy ⟨⟨v, w, rfl⟩, ac, hj⟩ e2
    obtain ⟨⟨n1, t1⟩, hL, r1, rfl, h1⟩ := paired_at pa i x hx
    obtain ⟨⟨n2, t2⟩, hM, r2, rfl, h2⟩ := paired_at pb i y hy
    have ac2 : Ac H H2 := ac.step e2
    have g1 : H2 r1 = some (.tup [.str n1, .int t1]) := ac2.g _ _ h1
    have g2 : H2 r2 = some (.tup [.str n2, .int t2]) := ac2.g _ _ h2
    have ne : (n1, t1) ≠ (n2, t2) → L ≠ M := fun z y => z (by
      rw [y] at hL
      exact Option.some.inj (hL.symm.trans hM))
    show tSeq _ _ _ [some (.ref a), some (.ref b), some (.ref r1), some (.ref r2)] _
    repeat lcg_off
    refine k_orN (fun z => absurd rfl z) fun _ => ?_
    repeat lcg_off
    refine ⟨_, rfl, ?_⟩
    repeat lcg_off
    refine k_orN (fun z => ?_) (fun z => ?_)
    · repeat lcg_off
      exact bad (ne fun y => z (congrArg Prod.fst y)) H2 ac2.ext
    repeat lcg_off
    refine k_ifN (fun z2 => ?_) (fun z2 => ?_)
    · repeat lcg_off
      exact bad (ne fun y => z2 (congrArg Prod.snd y)) H2 ac2.ext
    repeat lcg_off
    refine ⟨⟨_, _, rfl⟩, ac2, fun j hj' => ?_⟩
    by_cases ej : j = i
    · subst ej
      rw [hL, hM, z, z2]
    · exact hj j (by omega)
  · rintro σ H' ⟨⟨v, w, rfl⟩, ac, hj⟩
    repeat lcg_off
    have e : L = M := List.ext_getElem? fun j => by
      by_cases hj' : j < L.length
      · exact hj j hj'
      · rw [List.getElem?_eq_none (by omega), List.getElem?_eq_none (by omega)]
    have := k H' ac.ext
    rw [decide_eq_true e] at this
    exact this
theorem pure_l_taken (vs : List V) (H : Hp) (Q : VK) (E : XK) (h : sp_l_taken c vs H Q E) : t_l_taken c E { nx := fun _ H' => Q .non H', rt := Q } (start ["pairs", "rights", "size", "taken", "k", "pair", "right"] vs) H := by
  obtain ⟨a, p, D, R, n, rfl, ⟨xs, ha, pa⟩, ⟨ys, hp, pp⟩, nd, hn, hD, hR, k⟩ := h
  have hxl := paired_len pa
  rw [List.length_map] at hxl
  have hyl := paired_len pp
  have pa2 := paired_unmap pa
  unfold t_l_taken
  repeat lcg_off
  refine k_lcR (fun _ => true) (fun _ => .int 0) (fun x => rfl) (by omega) (fun i hi H1 ac QB q => by (repeat lcg_off); exact q H1 (Ext.refl _)) (fun i hi _ H1 ac Q1 q => by (repeat lcg_off); exact q H1 (Ext.refl _)) (fun tk H1 htk e1 h1 => ?_)
  rw [filter_yes, Int.toNat_natCast] at h1
  have nat : a ≠ tk := ne_nf htk ha
  have npt : p ≠ tk := ne_nf htk hp
  repeat lcg_off
  refine k_forL (fun i σ H' => (∃ v5 v6, σ = [some (.ref a), some (.ref p), some (.int n), some (.ref tk), none, v5, v6]) ∧ But [tk] H1 H' ∧ TupE H1 H' ∧ H' tk = some (.lst (fV n (takenM (D.take i))))) ⟨⟨_, _, rfl⟩, (Ext.refl _).but, TupE.refl _, h1⟩ (fun i σ H' _ q => SqL.of (q.2.1.g _ _ (e1.g _ _ ha) (nin_cons nat nin_nil))) ?_ ?_
  · rintro i v σ H2 hv ⟨⟨v5, v6, rfl⟩, b2, t2, h2⟩
    obtain ⟨x, hx, r, rfl, hr⟩ := paired_at pa2 i v hv
    have hi : i < D.length := by
      by_cases z : i < D.length
      · exact z
      · rw [List.getElem?_eq_none (by omega)] at hx
        cases hx
    have hxR := hD x (List.mem_of_getElem? hx)
    have et : D.take (i + 1) = D.take i ++ [x] := by
      rw [List.take_succ_eq_append_getElem hi]
      rw [List.getElem?_eq_getElem hi] at hx
      rw [Option.some.inj hx]
    show tFor _ _ _ _ [some (.ref a), some (.ref p), some (.int n), some (.ref tk), none, some (.ref r), v6] _
    have hp2 : H2 p = some (.lst ys) := b2.g _ _ (e1.g _ _ hp) (nin_cons npt nin_nil)
    repeat lcg_off
    refine k_forL (fun j σ H' => (∃ v6, σ = [some (.ref a), some (.ref p), some (.int n), some (.ref tk), none, some (.ref r), v6]) ∧ But [tk] H1 H' ∧ TupE H1 H' ∧ H' tk = some (.lst (fV n fun q => takenM (D.take i) q + if x.1 ∈ R.take j ∧ x.1.p = q then x.2 else 0))) ⟨⟨_, rfl⟩, b2, t2, ?_⟩ (fun j σ H' _ q => SqL.of (q.2.1.g _ _ (e1.g _ _ hp) (nin_cons npt nin_nil))) ?_ ?_
    · rw [h2]
      exact congrArg (fun z => some (HO.lst z)) (fV_congr fun q _ => by simp)
    · rintro j u σ H3 hu ⟨⟨v6, rfl⟩, b3, t3, h3⟩
      obtain ⟨w, hw, s, rfl, hs⟩ := paired_at pp j u hu
      have hj : j < R.length := by
        by_cases z : j < R.length
        · exact z
        · rw [List.getElem?_eq_none (by omega)] at hw
          cases hw
      have et2 : R.take (j + 1) = R.take j ++ [w] := by
        rw [List.take_succ_eq_append_getElem hj]
        rw [List.getElem?_eq_getElem hj] at hw
        rw [Option.some.inj hw]
      have hwR : w ∈ R := List.mem_of_getElem? hw
      have hwp := hR w hwR
      have nd2 := nd
      rw [← List.take_append_drop (j + 1) R, et2, List.append_assoc, List.map_append, List.nodup_append] at nd2
      have hnw : w ∉ R.take j := fun z => nd2.2.2 _ (List.mem_map.mpr ⟨w, z, rfl⟩) w.n (by simp) rfl
      have gr : H3 r = some (.tup [.str x.1.n, .int x.2]) := t3.g _ _ (e1.g _ _ hr)
      have gs : H3 s = some (.tup [.str w.n, nV w.p, .int w.a, .int w.d]) := t3.g _ _ (e1.g _ _ hs)
      show tIfS _ _ _ _ [some (.ref a), some (.ref p), some (.int n), some (.ref tk), none, some (.ref r), some (.ref s)] _
      repeat lcg_off
      refine k_ifD (fun e => ?_) (fun e => ?_)
      · have ew : w = x.1 := nodup_inj nd hwR hxR e
        repeat lcg_off
        refine k_ixL (SqL.of h3) (fV_at hwp) ?_
        repeat lcg_off
        refine k_setI (k := w.p) h3 (ixN_at (by rw [fV_len]; exact hwp)) fun H4 b4 h4 => ?_
        repeat lcg_off
        refine ⟨⟨_, rfl⟩, b3.trans b4, t3.trans (b4.tupL h3), ?_⟩
        rw [h4, fV_set]
        refine congrArg (fun z => some (HO.lst z)) (fV_congr fun q _ => ?_)
        rw [et2]
        by_cases eq : q = w.p
        · subst eq
          rw [if_pos rfl, if_neg (by rw [← ew]; exact fun z => hnw z.1), if_pos ⟨List.mem_append_right _ (by rw [← ew]; exact List.mem_cons_self), by rw [ew]⟩]
          omega
        · rw [if_neg eq, if_neg (by rw [← ew]; exact fun z => hnw z.1), if_neg (by rw [← ew]; exact fun z => eq z.2.symm)]
      · repeat lcg_off
        refine ⟨⟨_, rfl⟩, b3, t3, ?_⟩
        rw [h3]
        refine congrArg (fun z => some (HO.lst z)) (fV_congr fun q _ => ?_)
        rw [et2]
        have hm : x.1 ∈ R.take j ++ [w] ↔ x.1 ∈ R.take j := by
          rw [List.mem_append]
          refine ⟨fun z => z.elim id fun z => absurd ?_ e, .inl⟩
          rw [List.mem_singleton.mp z]
        simp only [hm]
    · rintro σ H3 ⟨⟨v6, rfl⟩, b3, t3, h3⟩
      refine ⟨⟨_, _, rfl⟩, b3, t3, ?_⟩
      rw [h3, hyl, List.take_length, et]
      refine congrArg (fun z => some (HO.lst z)) (fV_congr fun q _ => ?_)
      unfold takenM
      rw [sumL_app]
      show _ = _ + ((if x.1.p = q then x.2 else 0) + 0)
      by_cases z : x.1.p = q
      · rw [if_pos ⟨hxR, z⟩, if_pos z]
        omega
      · rw [if_neg (fun y => z y.2), if_neg z]
        omega
  · rintro σ H2 ⟨⟨v5, v6, rfl⟩, b2, t2, h2⟩
    repeat lcg_off
    rw [hxl, List.take_length] at h2
    exact k tk H2 htk (e1.ac.but b2 (frs_cons htk frs_nil)).ext h2
end
end Rv

end
namespace Rv
open PySem L2
/-! ### small helps -/
theorem get_lt {α : Type} {l : List α} {i : Nat} {x : α} (h : l[i]? = some x) : i < l.length := by
  by_cases z : i < l.length
  · exact z
  · rw [List.getElem?_eq_none (by omega)] at h
    cases h
theorem take_snoc {α : Type} {l : List α} {i : Nat} {x : α} (h : l[i]? = some x) : l.take (i + 1) = l.take i ++ [x] := by
  have hi := get_lt h
  rw [List.take_succ_eq_append_getElem hi]
  rw [List.getElem?_eq_getElem hi] at h
  rw [Option.some.inj h]
theorem nodup_fresh {α β : Type} {f : α → β} {l : List α} {i : Nat} {x : α} (nd : (l.map f).Nodup) (h : l[i]? = some x) : f x ∉ (l.take i).map f := fun z => by
  have nd2 := nd
  rw [← List.take_append_drop (i + 1) l, take_snoc h, List.append_assoc, List.map_append, List.nodup_append] at nd2
  exact nd2.2.2 _ z (f x) (by simp) rfl
theorem nodup_len {α : Type} [BEq α] [LawfulBEq α] : ∀ {S T : List α}, S.Nodup → (∀ x ∈ S, x ∈ T) → S.length ≤ T.length
  | [], _, _, _ => Nat.zero_le _
  | x :: S, T, nd, h => by
    have nd' := List.nodup_cons.mp nd
    have hx := h x List.mem_cons_self
    have h1 := nodup_len (S := S) (T := T.erase x) nd'.2 fun y hy => (List.mem_erase_of_ne fun e => nd'.1 (by rw [← e]; exact hy)).mpr (h y (List.mem_cons_of_mem _ hy))
    have h2 := List.length_erase_of_mem hx
    have h3 : 0 < T.length := List.length_pos_of_mem hx
    rw [List.length_cons]
    omega
theorem putR_names {ρ : Type} {nm : ρ → Str} (R : List ρ) (w : ρ) : (putR nm R w).map nm = if nm w ∈ R.map nm then R.map nm else R.map nm ++ [nm w] := by
  unfold putR
  by_cases h : nm w ∈ R.map nm
  · rw [if_pos h, if_pos h, List.map_map]
    refine List.map_congr_left fun x _ => ?_
    show nm (if nm x = nm w then w else x) = nm x
    by_cases e : nm x = nm w
    · rw [if_pos e, e]
    · rw [if_neg e]
  · rw [if_neg h, if_neg h, List.map_append]
    rfl
theorem putR_mem {ρ : Type} {nm : ρ → Str} {R : List ρ} {w : ρ} {m : Str} : m ∈ (putR nm R w).map nm ↔ m ∈ R.map nm ∨ m = nm w := by
  rw [putR_names]
  by_cases h : nm w ∈ R.map nm
  · rw [if_pos h]
    exact ⟨.inl, fun z => z.elim id fun e => by rw [e]; exact h⟩
  · rw [if_neg h, List.mem_append, List.mem_singleton]
theorem putR_nodup {ρ : Type} {nm : ρ → Str} {R : List ρ} {w : ρ} (nd : (R.map nm).Nodup) : ((putR nm R w).map nm).Nodup := by
  rw [putR_names]
  by_cases h : nm w ∈ R.map nm
  · rw [if_pos h]
    exact nd
  · rw [if_neg h, List.nodup_append]
    exact ⟨nd, by simp, fun a ha b hb e => h (by
      have hb' : b = nm w := by simpa using hb
      rw [← hb', ← e]
      exact ha)⟩
theorem putR_in {ρ : Type} {nm : ρ → Str} {R : List ρ} {w x : ρ} (h : x ∈ putR nm R w) : x = w ∨ x ∈ R := by
  unfold putR at h
  by_cases e : nm w ∈ R.map nm
  · rw [if_pos e] at h
    obtain ⟨y, hy, e2⟩ := List.mem_map.mp h
    by_cases z : nm y = nm w
    · rw [if_pos z] at e2
      exact .inl e2.symm
    · rw [if_neg z] at e2
      exact .inr (e2 ▸ hy)
  · rw [if_neg e] at h
    rcases List.mem_append.mp h with h | h
    · exact .inr h
    · exact .inl (by simpa using h)
theorem putR_len {ρ : Type} {nm : ρ → Str} (R : List ρ) (w : ρ) : (putR nm R w).length ≤ R.length + 1 := by
  unfold putR
  by_cases e : nm w ∈ R.map nm
  · rw [if_pos e, List.length_map]
    omega
  · rw [if_neg e, List.length_append]
    exact Nat.le_refl _
theorem paired_addr {α : Type} {G : V → α → Prop} (h : ∀ v x, G v x → ∃ a, v = .ref a) : ∀ {ws : List V} {L : List α}, Paired G ws L → ∃ ad : List Addr, ws = ad.map V.ref ∧ Paired (fun a x => G (.ref a) x) ad L
  | _, _, .nil => ⟨[], rfl, .nil⟩
  | _, _, .cons r t => by
    obtain ⟨a, e⟩ := h _ _ r
    obtain ⟨ad, e2, p⟩ := paired_addr h t
    subst e
    exact ⟨a :: ad, by rw [e2]; rfl, .cons r p⟩
/-! ### rows of years -/
def YrV (K : PySem.W.Frag) (H : Hp) (v : V) (Y : List Int) : Prop := ∃ y, v = .ref y ∧ SqL K H y (Y.map V.int)
structure YrsAt (K : PySem.W.Frag) (H : Hp) (p : Addr) (L : List (List Int)) : Prop where
  ex : ∃ xs, SqL K H p xs ∧ Paired (YrV K H) xs L
theorem YrsAt.ext {K : PySem.W.Frag} {H H' : Hp} {p : Addr} {L : List (List Int)} (A : YrsAt K H p L) (e : Ext H H') : YrsAt K H' p L :=
  let ⟨xs, h, q⟩ := A.ex
  ⟨xs, e.sq h, q.mono fun v Y ⟨y, h1, h2⟩ => ⟨y, h1, e.sq h2⟩⟩
theorem YrsAt.ac {K : PySem.W.Frag} {H H' : Hp} {p : Addr} {L : List (List Int)} (A : YrsAt K H p L) (e : Ac H H') : YrsAt K H' p L := A.ext e.ext
theorem dealt_len (B : List Nat) (Y : List Int) (R : List Rw) : (dealtM B Y R).length = R.length := by unfold dealtM; rw [List.length_map, dealR_len]
theorem dealt_perm {B : List Nat} {Y : List Int} {R S : List Rw} (h : agedR R = agedR S) : dealtM B Y R = dealtM B Y S := by
  unfold dealtM dealR takesM
  rw [h]
theorem repR_aged {R : List Rw} {w : Rw} (nd : (R.map Rw.n).Nodup) : agedR (repR (agedR R) w) = agedR (repR R w) :=
  agedR_perm_eq ((agedR_perm R).map _) (by rw [repR_names]; exact agedR_nodup nd)
theorem paired_set' {α β : Type} {F : α → β → Prop} : ∀ {xs : List α} {ys : List β}, Paired F xs ys → ∀ (j : Nat) {x : α} {y : β}, F x y → Paired F (xs.set j x) (ys.set j y)
  | _, _, .nil, _, _, _, _ => .nil
  | _, _, .cons _ t, 0, _, _, h => .cons h t
  | _, _, .cons r t, j + 1, _, _, h => .cons r (paired_set' t j h)
theorem PrsAt.dic {c : Cs} {H H' : Hp} {b r l d p : Addr} {B : List Nat} {R : List Rw} {L : List (Str × Int)} (A : PrsAt H p L) (h : BokAt c H b r l B d R) (e : But [d] H H') (t : TupE H H') : PrsAt H' p L := by
  obtain ⟨xs, hx, _⟩ := A.ex
  exact A.to t fun o q => e.g _ _ q (nin_cons (h.dic.ne hx fun _ z => by cases z) nin_nil)
theorem DicAt.dic_ne_of {ρ : Type} {nm : ρ → Str} {Val : Hp → V → ρ → Prop} {H : Hp} {d p : Addr} {R : List ρ} {L : List (Str × Int)} (D : DicAt nm Val H d R) (P : PrsAt H p L) : p ≠ d := by
  obtain ⟨xs, h, _⟩ := P.ex
  exact D.ne h fun _ z => by cases z
end Rv

section
local macro_rules | `(tactic| lcg_src) => `(tactic| first
  | assumption
  | (with_reducible exact Rv.lk_here)
  | (refine (Rv.lk_past (by decide +kernel)).trans ?_; lcg_src)
  | (with_unfolding_all exact rfl))
local macro_rules | `(tactic| keq_hits) => `(tactic| first
  | assumption
  | ((with_reducible apply Rv.Ext.hl); (focus assumption); (focus keq_hits))
  | ((with_reducible apply Rv.But.hl); (focus assumption); (focus keq_hits); (focus keq_hits))
  | ((with_reducible apply Rv.Ac.hl); (focus assumption); (focus keq_hits))
  | ((with_reducible apply L2.SqL.of); (focus assumption))
  | ((with_reducible apply Rv.Ext.sq); (focus assumption); (focus keq_hits))
  | ((with_reducible apply Rv.But.sq); (focus assumption); (focus keq_hits); (focus keq_hits))
  | ((with_reducible apply Rv.Ac.sq); (focus assumption); (focus keq_hits))
  | ((with_reducible apply L2.SqT.of); (focus assumption))
  | ((with_reducible apply Rv.Ext.st); (focus assumption); (focus keq_hits))
  | ((with_reducible apply Rv.But.st); (focus assumption); (focus keq_hits); (focus keq_hits))
  | ((with_reducible apply Rv.Ac.st); (focus assumption); (focus keq_hits))
  | ((with_reducible apply L2.Rd.of); (focus keq_hits))
  | ((with_reducible apply Rv.RivAt.ext); (focus assumption); (focus keq_hits))
  | ((with_reducible apply Rv.RivAt.but); (focus assumption); (focus keq_hits); (focus keq_hits); (focus keq_hits))
  | ((with_reducible apply Rv.RivAt.ac); (focus assumption); (focus keq_hits))
  | (with_reducible apply Rv.nin_nil)
  | ((with_reducible apply Rv.BokAt.ext); (focus assumption); (focus keq_hits))
  | ((with_reducible apply Rv.DicAt.ne); (focus assumption); (focus assumption); (focus (intro _ z; cases z)))
  | ((with_reducible apply Rv.DicAt.nf); (focus assumption); (focus assumption))
  | ((with_reducible apply Rv.Ext.tup); (focus assumption))
  | ((with_reducible apply Rv.Ac.tup); (focus assumption))
  | ((with_reducible apply Rv.nin_cons); (focus keq_hits); (focus keq_hits))
  | (with_reducible apply Rv.frs_nil)
  | ((with_reducible apply Rv.frs_cons); (focus keq_hits); (focus keq_hits))
  | ((with_reducible apply Ne.symm); (focus assumption))
  | ((with_reducible apply Rv.ne_nf); (focus assumption); (focus assumption))
  | ((with_reducible apply Rv.ne_fn); (focus assumption); (focus assumption))
  | ((with_reducible apply Rv.ne_k1); (focus assumption); (focus assumption); (focus (first | (intro z; cases z; done) | ((with_reducible apply Rv.ins_ne); intro z; cases z; done))))
  | ((with_reducible apply Rv.ne_k2); (focus assumption); (focus assumption); (focus (first | (intro z; cases z; done) | ((with_reducible apply Rv.ins_ne); intro z; cases z; done))))
  | ((with_reducible apply Rv.free2); (focus assumption); (focus assumption))
  | (with_reducible apply Rv.Ac.refl)
  | ((with_reducible apply Rv.Ac.step'); (focus assumption); (focus keq_hits))
  | ((with_reducible apply Rv.Ac.but'); (focus assumption); (focus keq_hits); (focus keq_hits))
  | (with_reducible apply Rv.Ext.refl)
  | ((with_reducible apply Rv.Ac.ext); (focus keq_hits))
  | ((with_reducible apply Rv.sz_le); first | omega | (simp only [List.length_cons, List.length_nil, List.length_map, List.length_append]; omega))
  | ((with_reducible apply Rv.sz_lt); first | omega | (simp only [List.length_cons, List.length_nil, List.length_map, List.length_append]; omega)))
local macro_rules | `(tactic| kln_le) => `(tactic| first
  | assumption
  | ((with_reducible apply Rv.Ext.hl); (focus assumption); (focus kln_le))
  | ((with_reducible apply Rv.But.hl); (focus assumption); (focus kln_le); (focus kln_le))
  | ((with_reducible apply Rv.Ac.hl); (focus assumption); (focus kln_le))
  | ((with_reducible apply L2.SqL.of); (focus assumption))
  | ((with_reducible apply Rv.Ext.sq); (focus assumption); (focus kln_le))
  | ((with_reducible apply Rv.But.sq); (focus assumption); (focus kln_le); (focus kln_le))
  | ((with_reducible apply Rv.Ac.sq); (focus assumption); (focus kln_le))
  | ((with_reducible apply L2.SqT.of); (focus assumption))
  | ((with_reducible apply Rv.Ext.st); (focus assumption); (focus kln_le))
  | ((with_reducible apply Rv.But.st); (focus assumption); (focus kln_le); (focus kln_le))
  | ((with_reducible apply Rv.Ac.st); (focus assumption); (focus kln_le))
  | ((with_reducible apply L2.Rd.of); (focus kln_le))
  | ((with_reducible apply Rv.RivAt.ext); (focus assumption); (focus kln_le))
  | ((with_reducible apply Rv.RivAt.but); (focus assumption); (focus kln_le); (focus kln_le); (focus kln_le))
  | ((with_reducible apply Rv.RivAt.ac); (focus assumption); (focus kln_le))
  | (with_reducible apply Rv.nin_nil)
  | ((with_reducible apply Rv.BokAt.ext); (focus assumption); (focus kln_le))
  | ((with_reducible apply Rv.DicAt.ne); (focus assumption); (focus keq_hits); (focus (intro _ z; cases z)))
  | ((with_reducible apply Rv.DicAt.nf); (focus assumption); (focus keq_hits))
  | ((with_reducible apply Rv.Ext.tup); (focus assumption))
  | ((with_reducible apply Rv.Ac.tup); (focus assumption))
  | ((with_reducible apply Rv.nin_cons); (focus kln_le); (focus kln_le))
  | (with_reducible apply Rv.frs_nil)
  | ((with_reducible apply Rv.frs_cons); (focus kln_le); (focus kln_le))
  | ((with_reducible apply Ne.symm); (focus assumption))
  | ((with_reducible apply Rv.ne_nf); (focus assumption); (focus keq_hits))
  | ((with_reducible apply Rv.ne_fn); (focus assumption); (focus keq_hits))
  | ((with_reducible apply Rv.ne_k1); (focus assumption); (focus keq_hits); (focus (first | (intro z; cases z; done) | ((with_reducible apply Rv.ins_ne); intro z; cases z; done))))
  | ((with_reducible apply Rv.ne_k2); (focus assumption); (focus keq_hits); (focus (first | (intro z; cases z; done) | ((with_reducible apply Rv.ins_ne); intro z; cases z; done))))
  | ((with_reducible apply Rv.free2); (focus assumption); (focus keq_hits))
  | (with_reducible apply Rv.Ac.refl)
  | ((with_reducible apply Rv.Ac.step'); (focus assumption); (focus kln_le))
  | ((with_reducible apply Rv.Ac.but'); (focus assumption); (focus kln_le); (focus kln_le))
  | (with_reducible apply Rv.Ext.refl)
  | ((with_reducible apply Rv.Ac.ext); (focus kln_le))
  | ((with_reducible apply Rv.sz_le); first | omega | (simp only [List.length_cons, List.length_nil, List.length_map, List.length_append]; omega))
  | ((with_reducible apply Rv.sz_lt); first | omega | (simp only [List.length_cons, List.length_nil, List.length_map, List.length_append]; omega)))
local macro_rules | `(tactic| lcg_sub) => `(tactic| first
  | assumption
  | ((with_reducible apply Rv.Ext.hl); (focus assumption); (focus lcg_sub))
  | ((with_reducible apply Rv.But.hl); (focus assumption); (focus lcg_sub); (focus lcg_sub))
  | ((with_reducible apply Rv.Ac.hl); (focus assumption); (focus lcg_sub))
  | ((with_reducible apply L2.SqL.of); (focus assumption))
  | ((with_reducible apply Rv.Ext.sq); (focus assumption); (focus lcg_sub))
  | ((with_reducible apply Rv.But.sq); (focus assumption); (focus lcg_sub); (focus lcg_sub))
  | ((with_reducible apply Rv.Ac.sq); (focus assumption); (focus lcg_sub))
  | ((with_reducible apply L2.SqT.of); (focus assumption))
  | ((with_reducible apply Rv.Ext.st); (focus assumption); (focus lcg_sub))
  | ((with_reducible apply Rv.But.st); (focus assumption); (focus lcg_sub); (focus lcg_sub))
  | ((with_reducible apply Rv.Ac.st); (focus assumption); (focus lcg_sub))
  | ((with_reducible apply L2.Rd.of); (focus lcg_sub))
  | ((with_reducible apply Rv.RivAt.ext); (focus assumption); (focus lcg_sub))
  | ((with_reducible apply Rv.RivAt.but); (focus assumption); (focus lcg_sub); (focus lcg_sub); (focus lcg_sub))
  | ((with_reducible apply Rv.RivAt.ac); (focus assumption); (focus lcg_sub))
  | (with_reducible apply Rv.nin_nil)
  | ((with_reducible apply Rv.BokAt.ext); (focus assumption); (focus lcg_sub))
  | ((with_reducible apply Rv.DicAt.ne); (focus assumption); (focus kln_le); (focus (intro _ z; cases z)))
  | ((with_reducible apply Rv.DicAt.nf); (focus assumption); (focus kln_le))
  | ((with_reducible apply Rv.Ext.tup); (focus assumption))
  | ((with_reducible apply Rv.Ac.tup); (focus assumption))
  | ((with_reducible apply Rv.nin_cons); (focus lcg_sub); (focus lcg_sub))
  | (with_reducible apply Rv.frs_nil)
  | ((with_reducible apply Rv.frs_cons); (focus lcg_sub); (focus lcg_sub))
  | ((with_reducible apply Ne.symm); (focus assumption))
  | ((with_reducible apply Rv.ne_nf); (focus assumption); (focus kln_le))
  | ((with_reducible apply Rv.ne_fn); (focus assumption); (focus kln_le))
  | ((with_reducible apply Rv.ne_k1); (focus assumption); (focus kln_le); (focus (first | (intro z; cases z; done) | ((with_reducible apply Rv.ins_ne); intro z; cases z; done))))
  | ((with_reducible apply Rv.ne_k2); (focus assumption); (focus kln_le); (focus (first | (intro z; cases z; done) | ((with_reducible apply Rv.ins_ne); intro z; cases z; done))))
  | ((with_reducible apply Rv.free2); (focus assumption); (focus kln_le))
  | (with_reducible apply Rv.Ac.refl)
  | ((with_reducible apply Rv.Ac.step'); (focus assumption); (focus lcg_sub))
  | ((with_reducible apply Rv.Ac.but'); (focus assumption); (focus lcg_sub); (focus lcg_sub))
  | (with_reducible apply Rv.Ext.refl)
  | ((with_reducible apply Rv.Ac.ext); (focus lcg_sub))
  | ((with_reducible apply Rv.sz_le); first | omega | (simp only [List.length_cons, List.length_nil, List.length_map, List.length_append]; omega))
  | ((with_reducible apply Rv.sz_lt); first | omega | (simp only [List.length_cons, List.length_nil, List.length_map, List.length_append]; omega)))
local macro_rules | `(tactic| lcg_off) => `(tactic| first
  | (with_reducible apply Rv.r_seq)
  | (with_reducible apply Rv.r_asg)
  | (with_reducible apply Rv.r_op)
  | ((with_reducible apply Rv.r_var); (focus with_unfolding_all rfl))
  | (with_reducible apply Rv.r_c)
  | (with_reducible apply Rv.r_if)
  | (with_reducible apply Rv.r_test)
  | (with_reducible apply Rv.r_fld)
  | (with_reducible apply Rv.r_cons)
  | (with_reducible apply Rv.r_nil)
  | (with_reducible apply Rv.r_ret)
  | (with_reducible apply Rv.r_drop)
  | (with_reducible apply Rv.r_meth)
  | (with_reducible apply Rv.r_fn)
  | (with_reducible apply Rv.r_CB)
  | (with_reducible apply Rv.r_BM)
  | (with_reducible apply Rv.r_BM0)
  | (with_reducible apply Rv.k_bl)
  | (with_reducible apply Rv.r_not)
  | (with_reducible apply Rv.r_and)
  | (with_reducible apply Rv.r_or)
  | (with_reducible apply Rv.k_andT)
  | (with_reducible apply Rv.k_andF)
  | (with_reducible apply Rv.k_orT)
  | (with_reducible apply Rv.k_orF)
  | (with_reducible apply Rv.r_tB)
  | (with_reducible apply Rv.r_chain)
  | (with_reducible apply Rv.r_un)
  | (with_reducible apply Rv.r_tup)
  | (with_reducible apply Rv.r_lst)
  | (with_reducible apply Rv.r_andV)
  | (with_reducible apply Rv.r_orV)
  | (with_reducible apply Rv.r_notV)
  | (with_reducible apply Rv.r_ifE)
  | (with_reducible apply Rv.k_notV)
  | (with_reducible apply Rv.k_andVT)
  | (with_reducible apply Rv.k_andVF)
  | (with_reducible apply Rv.k_orVT)
  | (with_reducible apply Rv.k_orVF)
  | (with_reducible apply Rv.k_addI)
  | (with_reducible apply Rv.k_subI)
  | ((with_reducible apply Rv.k_mulI); (focus (unfold L2.CMul; omega)))
  | ((with_reducible apply Rv.k_divI); (focus (unfold L2.CDiv; omega)))
  | ((with_reducible apply Rv.k_modI); (focus omega))
  | ((with_reducible apply Rv.k_powI); (focus (unfold L2.CPow; decide)))
  | (with_reducible apply Rv.k_negI)
  | (with_reducible apply Rv.k_ltI)
  | (with_reducible apply Rv.k_leI)
  | (with_reducible apply Rv.k_gtI)
  | (with_reducible apply Rv.k_geI)
  | (with_reducible apply Rv.k_eqI)
  | (with_reducible apply Rv.k_neI)
  | (with_reducible apply Rv.k_eqS)
  | (with_reducible apply Rv.k_neS)
  | (with_reducible apply Rv.k_isNN)
  | (with_reducible apply Rv.k_isNI)
  | (with_reducible apply Rv.k_isNR)
  | (with_reducible apply Rv.k_notNN)
  | (with_reducible apply Rv.k_notNI)
  | (with_reducible apply Rv.k_notNR)
  | ((with_reducible apply Rv.k_tyL); (focus lcg_sub))
  | ((with_reducible apply Rv.k_ixT); (focus lcg_sub); (focus with_unfolding_all rfl))
  | ((with_reducible apply Rv.k_ixL); (focus lcg_sub); (focus with_unfolding_all rfl))
  | ((with_reducible apply Rv.k_lenL); (focus lcg_sub))
  | ((with_reducible apply Rv.k_lenU); (focus lcg_sub))
  | ((with_reducible apply Rv.k_tup); (focus lcg_sub))
  | ((with_reducible apply Rv.k_lst); (focus lcg_sub))
  | ((with_reducible apply Rv.k_list); (focus lcg_sub))
  | ((with_reducible apply Rv.k_append); (focus lcg_sub); (focus lcg_sub))
  | ((with_reducible apply Rv.k_cat); (focus lcg_sub); (focus lcg_sub); (focus lcg_sub))
  | ((with_reducible apply Rv.k_clear); (focus lcg_sub))
  | (with_reducible apply Rv.k_int1)
  | (with_reducible apply Rv.k_max2)
  | (with_reducible apply Rv.k_min2)
  | (with_reducible apply Rv.k_str)
  | (with_reducible apply Rv.k_part)
  | (with_reducible apply Rv.r_M1)
  | (with_reducible apply Rv.r_dget)
  | (with_reducible apply Rv.r_din)
  | (with_reducible apply Rv.r_dnotin)
  | (with_reducible apply Rv.r_dget2)
  | (with_reducible apply Rv.r_sl)
  | (with_reducible apply Rv.r_nopart)
  | (with_reducible apply Rv.r_part)
  | (with_reducible apply Rv.r_for)
  | (with_reducible apply Rv.r_lc)
  | (with_reducible apply Rv.r_yes)
  | (with_reducible apply Rv.r_iList)
  | (with_reducible apply Rv.r_iRng1)
  | (with_reducible apply Rv.r_iRng2)
  | (with_reducible apply Rv.r_iZip)
  | (with_reducible apply Rv.r_iStr)
  | (with_reducible apply Rv.r_iKeys)
  | (with_reducible apply Rv.r_lstRg)
  | ((with_reducible apply Rv.k_itl); (focus lcg_sub))
  | ((with_reducible apply Rv.k_zip); (focus lcg_sub); (focus lcg_sub))
  | ((with_reducible apply Rv.k_rng1); (focus omega))
  | ((with_reducible apply Rv.k_rng2); (focus omega))
  | (with_reducible apply Rv.k_its)
  | (with_reducible apply Rv.r_retN)
  | (with_reducible apply Rv.r_next)
  | (with_reducible apply Rv.r_setF)
  | (with_reducible apply Rv.r_dput)
  | (with_reducible apply Rv.r_setI)
  | (with_reducible apply Rv.r_raise)
  | (with_reducible apply Rv.r_wF)
  | (with_reducible apply Rv.k_ifTT)
  | (with_reducible apply Rv.k_ifFF)
  | (with_reducible apply Rv.k_ifNT)
  | (with_reducible apply Rv.k_ifNF)
  | (with_reducible apply Rv.k_andNT)
  | (with_reducible apply Rv.k_andNF)
  | (with_reducible apply Rv.k_orNT)
  | (with_reducible apply Rv.k_orNF)
  | (with_reducible apply Rv.k_andVNT)
  | (with_reducible apply Rv.k_andVNF)
  | (with_reducible apply Rv.k_orVNT)
  | (with_reducible apply Rv.k_orVNF)
  | (with_reducible apply Rv.k_isB_ii)
  | (with_reducible apply Rv.k_isB_ib)
  | (with_reducible apply Rv.k_isB_bi)
  | (with_reducible apply Rv.k_isB_bb)
  | (with_reducible apply Rv.k_isB_ni)
  | (with_reducible apply Rv.k_isB_ss)
  | ((with_reducible apply Rv.k_isB_ll); (focus lcg_sub))
  | ((with_reducible apply Rv.k_isB_tt); (focus lcg_sub))
  | (with_reducible apply Rv.r_mk)
  | (with_reducible apply Rv.r_rg1)
  | (with_reducible apply Rv.k_rg1)
  | (with_reducible apply Rv.r_dpop1)
  | (with_reducible apply Rv.k_ifNNT)
  | (with_reducible apply Rv.k_ifNNF)
  | (with_reducible apply Rv.r_dropE)
  | (with_reducible apply Rv.r_dropR)
  | (with_reducible apply Rv.r_dropN)
  | (with_reducible apply Rv.r_dropM))
namespace Rv
open PySem L2
def sp_l_rows_k08 (c : Cs) : Sp := fun vs H Q E => ∃ b r l B d R, vs = [.ref b] ∧ BokAt c H b r l B d R ∧ ∀ q H', H q = none → Ext H H' → RtsAt H' q (agedR R) → Q (.ref q) H'
-- l_rows_k08: 0 book 1 name
def t_l_rows_k08 (c : Cs) (E : XK) : TS :=
  (tRet (tLc (iList c.K (tMethS c.book "names" (sp_Book_names c) (wF E) (tVar 0) tNil)) (gName 1) tYes (tOp (rCatT c.K) (tTup (tCons (tVar 1) tNil)) (tMethS c.book "right" (sp_Book_right c) wN (tVar 0) (tCons (tVar 1) tNil))) [1]))
section
variable {c : Cs}
/-- [(name,) + book.right(name) for name in names] -/
theorem rows_lc {σ : L2.St} {H : Hp} {Q : VK} {W : WX} {p b r l d : Addr} {B : List Nat} {R : List Rw} {j bi : Nat} {vs : List Nat} (A : BokAt c H b r l B d R) (h1 : H p = some (.lst ((agedR R).map fun w => .str w.n)))
    (hw : ∀ x, wipe ((wipe σ vs).set j (some x)) vs = wipe σ vs) (hvj : ∀ x, ((wipe σ vs).set j (some x))[j]? = some (some x)) (hvb : ∀ x, ((wipe σ vs).set j (some x))[bi]? = some (some (.ref b)))
    (fin : ∀ D H', H D = none → Ext H H' → RtsAt H' D (agedR R) → Q (.ref D) H') :
    kLc (gName j) tYes (tOp (rCatT c.K) (tTup (tCons (tVar j) tNil)) (tMethS c.book "right" (sp_Book_right c) W (tVar bi) (tCons (tVar j) tNil))) vs σ Q (Itl c.K p) H := by
  have hf := A.few
  have hal := agedR_len R
  refine k_lcLr (agedR R) (fun w => .str w.n) (fun _ => true) (fun w => w) RwF (SqL.of h1) RwF_mono hw (by omega) (fun w hw H2 ac QB q => by (repeat lcg_off); exact q H2 (Ext.refl _)) (fun w hw _ H2 ac Q1 q => ?_) (fun D ws H2 hD e2 h2 pr => ?_)
  · have A2 : BokAt c H2 b r l B d R := A.ext ac.ext
    refine r_op (r_tup (r_cons (r_var (hvj _) (r_nil ?_))))
    repeat lcg_off
    intro t1 H3 ht1 e3 h3
    have A3 := A2.ext e3
    refine r_meth (r_var (hvb _) ?_)
    refine k_meth A3.ob.choose_spec (by lcg_src) ?_
    refine r_cons (r_var (hvj _) (r_nil ?_))
    have hwR := agedR_mem.mp hw
    refine ⟨b, r, l, B, d, R, w.n, rfl, A3, fun w' hw' e t ht => ?_, fun z => absurd (List.mem_map.mpr ⟨w, hwR, rfl⟩) z⟩
    obtain rfl := nodup_inj A3.nd hw' hwR e
    refine k_catT h3 ht (by show 0 + 2 ≤ 1000; decide) fun t2 H4 ht2 e4 h4 => ?_
    exact q _ H4 (e3.trans e4) ⟨t2, rfl, h4⟩
  · rw [filter_yes, List.map_id'] at pr
    exact fin D H2 hD e2 ⟨ws, h2, pr⟩
theorem pure_l_rows_k08 (vs : List V) (H : Hp) (Q : VK) (E : XK) (h : sp_l_rows_k08 c vs H Q E) : t_l_rows_k08 c E { nx := fun _ H' => Q .non H', rt := Q } (start ["book", "name"] vs) H := by
  obtain ⟨b, r, l, B, d, R, rfl, A, k⟩ := h
  unfold t_l_rows_k08
  repeat lcg_off
  refine k_meth A.ob.choose_spec (by lcg_src) ?_
  repeat lcg_off
  refine ⟨b, r, l, B, d, R, rfl, A, fun p H1 hp e1 h1 => ?_⟩
  repeat lcg_off
  exact rows_lc (A.ext e1) h1 (fun _ => rfl) (fun _ => rfl) (fun _ => rfl) fun D H2 hD e2 P => k D H2 (e1.free hD) (e1.trans e2) P
theorem k_eqRts {H : Hp} {Q : VK} {p q : Addr} {R : List Rw} (h1 : RtsAt H p R) (h2 : RtsAt H q R) (ok : ∀ w ∈ R, PyData.strOk w.n = true) (k : Q (.bl true) H) : rEqD c.K (.ref p) (.ref q) H Q := by
  obtain ⟨xs, hx, px⟩ := h1.ex
  obtain ⟨ys, hy, py⟩ := h2.ex
  exact k_eqDs (.lst (SqL.of hx) (dpAll_rts px)) (.lst (SqL.of hy) (dpAll_rts py)) (laid_rts ok) (by decide) k
theorem k_neRts {H : Hp} {Q : VK} {p q : Addr} {R : List Rw} (h1 : RtsAt H p R) (h2 : RtsAt H q R) (ok : ∀ w ∈ R, PyData.strOk w.n = true) (k : Q (.bl false) H) : rNeD c.K (.ref p) (.ref q) H Q := by
  obtain ⟨xs, hx, px⟩ := h1.ex
  obtain ⟨ys, hy, py⟩ := h2.ex
  exact k_neDs (.lst (SqL.of hx) (dpAll_rts px)) (.lst (SqL.of hy) (dpAll_rts py)) (laid_rts ok) (by decide) k
end
end Rv

end
section
namespace Rv
open PySem L2
open SX (S S_inj S_len S_cat join_S num_S S_tl lens)
/-! ### what is written -/
def riverL : List Nat := [114, 105, 118, 101, 114]
def atL : List Nat := [97, 116]
def wantsL : List Nat := [119, 97, 110, 116, 115]
def sinceL : List Nat := [115, 105, 110, 99, 101]
def tailsL (s : List Nat) (ys : List (List Nat)) : List Nat := (ys.map fun y => s ++ y).flatten
theorem joinL_cons (s : List Nat) : ∀ (x : List Nat) (ys : List (List Nat)), TL.joinL s (x :: ys) = x ++ tailsL s ys
  | x, [] => (List.append_nil x).symm
  | x, y :: ys => by
    show x ++ (s ++ TL.joinL s (y :: ys)) = x ++ ((s ++ y) ++ tailsL s ys)
    rw [joinL_cons s y ys, List.append_assoc]
theorem tails_snoc (s : List Nat) (ys : List (List Nat)) (y : List Nat) : tailsL s (ys ++ [y]) = tailsL s ys ++ (s ++ y) := by
  unfold tailsL
  rw [List.map_append, List.flatten_append]
  show _ ++ ((s ++ y) ++ []) = _
  rw [List.append_nil]
def wordsL (w : Rw) : List (List Nat) := [w.n.cps.toList, atL, TL.numL w.p, wantsL, TL.numL w.a.toNat, sinceL, TL.numL w.d.toNat]
def lineL (w : Rw) : List Nat := TL.joinL [32] (wordsL w)
def headL (B : List Nat) : List Nat := TL.joinL [32] (riverL :: [45] :: B.map TL.numL)
def textL (B : List Nat) (R : List Rw) : List Nat := TL.joinL [10] (headL B :: (agedR R).map lineL)
structure okW (w : Rw) : Prop where
  n : w.n.length ≤ 8
  a0 : 0 ≤ w.a
  a1 : w.a ≤ 1000000
  d0 : 0 ≤ w.d
  d1 : w.d ≤ 9999
  p : w.p < 40
theorem atS : Str.ofString "at" = S atL := by decide +kernel
theorem wantsS : Str.ofString "wants" = S wantsL := by decide +kernel
theorem sinceS : Str.ofString "since" = S sinceL := by decide +kernel
theorem riverS : Str.ofString "river" = S riverL := by decide +kernel
theorem dashS : Str.ofString "-" = S [45] := by decide +kernel
theorem spaceS : Str.ofString " " = S [32] := by decide +kernel
theorem lineS : Str.ofString "\n" = S [10] := by decide +kernel
theorem numI {i : Int} (h : 0 ≤ i) : Str.ofString (toString i) = S (TL.numL i.toNat) := by rw [← num_S, Int.toNat_of_nonneg h]
theorem log_small {i : Int} (h : i.natAbs ≤ 10000000) : i.natAbs.log2 < 1920 := by
  by_cases z : i.natAbs = 0
  · rw [z]
    decide
  · exact Nat.lt_trans ((Nat.log2_lt z).mpr (show i.natAbs < 2 ^ 24 by omega)) (by decide)
theorem sum_le {α : Type} {f : α → Nat} {k : Nat} : ∀ {l : List α}, (∀ x ∈ l, f x ≤ k) → (l.map f).sum ≤ k * l.length
  | [], _ => Nat.zero_le _
  | x :: l, h => by
    have h1 := h x List.mem_cons_self
    have h2 := sum_le (l := l) fun y hy => h y (List.mem_cons_of_mem _ hy)
    rw [List.map_cons, List.sum_cons, List.length_cons, Nat.mul_succ]
    omega
theorem tails_len {s : List Nat} {k : Nat} {ys : List (List Nat)} (h : ∀ y ∈ ys, y.length ≤ k) : (tailsL s ys).length ≤ (s.length + k) * ys.length := by
  unfold tailsL
  rw [List.length_flatten, List.map_map]
  exact sum_le fun y hy => by
    show (s ++ y).length ≤ _
    rw [List.length_append]
    have := h y hy
    omega
theorem num_small {n : Nat} (h : n < 10000000) : (TL.numL n).length ≤ 7 := TL.numL_len (by decide) (by simpa using h)
theorem words_small {w : Rw} (h : okW w) : ∀ y ∈ wordsL w, y.length ≤ 8 := by
  have e : w.n.cps.toList.length ≤ 8 := h.n
  have := h.p
  have := h.a1
  have := h.d1
  have e1 := num_small (n := w.p) (by omega)
  have e2 := num_small (n := w.a.toNat) (by omega)
  have e3 := num_small (n := w.d.toNat) (by omega)
  intro y hy
  unfold wordsL at hy
  simp only [List.mem_cons, List.not_mem_nil, or_false] at hy
  rcases hy with z | z | z | z | z | z | z <;> rw [z]
  · exact e
  · decide
  · omega
  · decide
  · omega
  · decide
  · omega
theorem line_len {w : Rw} (h : okW w) : (lineL w).length ≤ 62 := by
  have hw := words_small h
  unfold lineL
  unfold wordsL at hw ⊢
  rw [joinL_cons, List.length_append]
  have h1 := hw _ List.mem_cons_self
  have h2 := tails_len (s := [32]) (k := 8) (ys := [atL, TL.numL w.p, wantsL, TL.numL w.a.toNat, sinceL, TL.numL w.d.toNat]) fun y hy => hw y (List.mem_cons_of_mem _ hy)
  have h3 : ([32] : List Nat).length = 1 := rfl
  have h4 : [atL, TL.numL w.p, wantsL, TL.numL w.a.toNat, sinceL, TL.numL w.d.toNat].length = 6 := rfl
  rw [h3, h4] at h2
  omega
theorem bel_small {B : List Nat} (hB : Riv B) {q : Nat} (h : q ∈ B) : q < 40 := by
  obtain ⟨i, hi, e⟩ := List.getElem_of_mem h
  have := hB.low i hi
  have hf := hB.few
  rw [List.getD_eq_getElem?_getD, List.getElem?_eq_getElem hi] at this
  have : B[i] ≤ i := this
  omega
theorem head_words {B : List Nat} (hB : Riv B) : ∀ y ∈ (riverL :: [45] :: B.map TL.numL), y.length ≤ 7 := by
  intro y hy
  rcases List.mem_cons.mp hy with e | hy
  · rw [e]; decide
  rcases List.mem_cons.mp hy with e | hy
  · rw [e]; decide
  obtain ⟨q, hq, rfl⟩ := List.mem_map.mp hy
  exact num_small (by have := bel_small hB hq; omega)
theorem head_len {B : List Nat} (hB : Riv B) : (headL B).length ≤ 400 := by
  have hw := head_words hB
  unfold headL
  rw [joinL_cons, List.length_append]
  have h1 := hw _ List.mem_cons_self
  have h2 := tails_len (s := [32]) (k := 7) (ys := [45] :: B.map TL.numL) fun y hy => hw y (List.mem_cons_of_mem _ hy)
  have h3 : ([32] : List Nat).length = 1 := rfl
  have hf := hB.few
  rw [h3, List.length_cons, List.length_map] at h2
  omega
theorem lines_small {B : List Nat} {L : List Rw} (hB : Riv B) (h : ∀ w ∈ L, okW w) : ∀ y ∈ headL B :: L.map lineL, y.length ≤ 400 := by
  intro y hy
  rcases List.mem_cons.mp hy with e | hy
  · rw [e]; exact head_len hB
  obtain ⟨w, hw, rfl⟩ := List.mem_map.mp hy
  have := line_len (h w hw)
  omega
theorem text_len {B : List Nat} {R : List Rw} (hB : Riv B) (h : ∀ w ∈ R, okW w) (hR : R.length ≤ 1000) : (textL B R).length ≤ 63400 := by
  unfold textL
  rw [joinL_cons, List.length_append]
  have h1 := head_len hB
  have h2 := tails_len (s := [10]) (k := 62) (ys := (agedR R).map lineL) fun y hy => by
    obtain ⟨w, hw, rfl⟩ := List.mem_map.mp hy
    exact line_len (h w (agedR_mem.mp hw))
  have h3 : ([10] : List Nat).length = 1 := rfl
  have hal := agedR_len R
  rw [h3, List.length_map] at h2
  omega
def sp_shown (c : Cs) : Sp := fun vs H Q E => ∃ b r l B d R, vs = [.ref b] ∧ BokAt c H b r l B d R ∧ (∀ w ∈ R, okW w) ∧ ∀ H', Ext H H' → Q (.str (S (textL B R))) H'
def sp_l_text (c : Cs) : Sp := fun vs H Q E => ∃ b p B R, vs = [.ref b, .ref p] ∧ SqL c.K H b (belV B) ∧ Riv B ∧ RtsAt H p R ∧ (R.map Rw.n).Nodup ∧ (∀ w ∈ R, okW w) ∧ R.length ≤ 1000 ∧ ∀ H', Ext H H' → Q (.str (S (textL B R))) H'
theorem k_strP {n : Nat} {H : Hp} {Q : VK} (h : n < 10000000) (q : Q (.str (S (TL.numL n))) H) : rStrI [nV n] H Q := by
  rw [← num_S] at q
  exact k_strI (log_small (by rw [Int.natAbs_natCast]; omega)) q
theorem k_strA {i : Int} {H : Hp} {Q : VK} (h0 : 0 ≤ i) (h : i < 10000000) (q : Q (.str (S (TL.numL i.toNat))) H) : rStrI [.int i] H Q := by
  rw [← numI h0] at q
  exact k_strI (log_small (by omega)) q
end Rv
local macro_rules | `(tactic| lcg_src) => `(tactic| first
  | assumption
  | (with_reducible exact Rv.lk_here)
  | (refine (Rv.lk_past (by decide +kernel)).trans ?_; lcg_src)
  | (with_unfolding_all exact rfl))
local macro_rules | `(tactic| keq_hits) => `(tactic| first
  | assumption
  | ((with_reducible apply Rv.Ext.hl); (focus assumption); (focus keq_hits))
  | ((with_reducible apply Rv.But.hl); (focus assumption); (focus keq_hits); (focus keq_hits))
  | ((with_reducible apply Rv.Ac.hl); (focus assumption); (focus keq_hits))
  | ((with_reducible apply L2.SqL.of); (focus assumption))
  | ((with_reducible apply Rv.Ext.sq); (focus assumption); (focus keq_hits))
  | ((with_reducible apply Rv.But.sq); (focus assumption); (focus keq_hits); (focus keq_hits))
  | ((with_reducible apply Rv.Ac.sq); (focus assumption); (focus keq_hits))
  | ((with_reducible apply L2.SqT.of); (focus assumption))
  | ((with_reducible apply Rv.Ext.st); (focus assumption); (focus keq_hits))
  | ((with_reducible apply Rv.But.st); (focus assumption); (focus keq_hits); (focus keq_hits))
  | ((with_reducible apply Rv.Ac.st); (focus assumption); (focus keq_hits))
  | ((with_reducible apply L2.Rd.of); (focus keq_hits))
  | ((with_reducible apply Rv.RivAt.ext); (focus assumption); (focus keq_hits))
  | ((with_reducible apply Rv.RivAt.but); (focus assumption); (focus keq_hits); (focus keq_hits); (focus keq_hits))
  | ((with_reducible apply Rv.RivAt.ac); (focus assumption); (focus keq_hits))
  | (with_reducible apply Rv.nin_nil)
  | ((with_reducible apply Rv.BokAt.ext); (focus assumption); (focus keq_hits))
  | ((with_reducible apply Rv.DicAt.ne); (focus assumption); (focus assumption); (focus (intro _ z; cases z)))
  | ((with_reducible apply Rv.DicAt.nf); (focus assumption); (focus assumption))
  | ((with_reducible apply Rv.Ext.tup); (focus assumption))
  | ((with_reducible apply Rv.Ac.tup); (focus assumption))
  | ((with_reducible apply Rv.nin_cons); (focus keq_hits); (focus keq_hits))
  | (with_reducible apply Rv.frs_nil)
  | ((with_reducible apply Rv.frs_cons); (focus keq_hits); (focus keq_hits))
  | ((with_reducible apply Ne.symm); (focus assumption))
  | ((with_reducible apply Rv.ne_nf); (focus assumption); (focus assumption))
  | ((with_reducible apply Rv.ne_fn); (focus assumption); (focus assumption))
  | ((with_reducible apply Rv.ne_k1); (focus assumption); (focus assumption); (focus (first | (intro z; cases z; done) | ((with_reducible apply Rv.ins_ne); intro z; cases z; done))))
  | ((with_reducible apply Rv.ne_k2); (focus assumption); (focus assumption); (focus (first | (intro z; cases z; done) | ((with_reducible apply Rv.ins_ne); intro z; cases z; done))))
  | ((with_reducible apply Rv.free2); (focus assumption); (focus assumption))
  | (with_reducible apply Rv.Ac.refl)
  | ((with_reducible apply Rv.Ac.step'); (focus assumption); (focus keq_hits))
  | ((with_reducible apply Rv.Ac.but'); (focus assumption); (focus keq_hits); (focus keq_hits))
  | (with_reducible apply Rv.Ext.refl)
  | ((with_reducible apply Rv.Ac.ext); (focus keq_hits))
  | ((with_reducible apply Rv.sz_le); first | omega | (simp only [List.length_cons, List.length_nil, List.length_map, List.length_append]; omega))
  | ((with_reducible apply Rv.sz_lt); first | omega | (simp only [List.length_cons, List.length_nil, List.length_map, List.length_append]; omega)))
local macro_rules | `(tactic| kln_le) => `(tactic| first
  | assumption
  | ((with_reducible apply Rv.Ext.hl); (focus assumption); (focus kln_le))
  | ((with_reducible apply Rv.But.hl); (focus assumption); (focus kln_le); (focus kln_le))
  | ((with_reducible apply Rv.Ac.hl); (focus assumption); (focus kln_le))
  | ((with_reducible apply L2.SqL.of); (focus assumption))
  | ((with_reducible apply Rv.Ext.sq); (focus assumption); (focus kln_le))
  | ((with_reducible apply Rv.But.sq); (focus assumption); (focus kln_le); (focus kln_le))
  | ((with_reducible apply Rv.Ac.sq); (focus assumption); (focus kln_le))
  | ((with_reducible apply L2.SqT.of); (focus assumption))
  | ((with_reducible apply Rv.Ext.st); (focus assumption); (focus kln_le))
  | ((with_reducible apply Rv.But.st); (focus assumption); (focus kln_le); (focus kln_le))
  | ((with_reducible apply Rv.Ac.st); (focus assumption); (focus kln_le))
  | ((with_reducible apply L2.Rd.of); (focus kln_le))
  | ((with_reducible apply Rv.RivAt.ext); (focus assumption); (focus kln_le))
  | ((with_reducible apply Rv.RivAt.but); (focus assumption); (focus kln_le); (focus kln_le); (focus kln_le))
  | ((with_reducible apply Rv.RivAt.ac); (focus assumption); (focus kln_le))
  | (with_reducible apply Rv.nin_nil)
  | ((with_reducible apply Rv.BokAt.ext); (focus assumption); (focus kln_le))
  | ((with_reducible apply Rv.DicAt.ne); (focus assumption); (focus keq_hits); (focus (intro _ z; cases z)))
  | ((with_reducible apply Rv.DicAt.nf); (focus assumption); (focus keq_hits))
  | ((with_reducible apply Rv.Ext.tup); (focus assumption))
  | ((with_reducible apply Rv.Ac.tup); (focus assumption))
  | ((with_reducible apply Rv.nin_cons); (focus kln_le); (focus kln_le))
  | (with_reducible apply Rv.frs_nil)
  | ((with_reducible apply Rv.frs_cons); (focus kln_le); (focus kln_le))
  | ((with_reducible apply Ne.symm); (focus assumption))
  | ((with_reducible apply Rv.ne_nf); (focus assumption); (focus keq_hits))
  | ((with_reducible apply Rv.ne_fn); (focus assumption); (focus keq_hits))
  | ((with_reducible apply Rv.ne_k1); (focus assumption); (focus keq_hits); (focus (first | (intro z; cases z; done) | ((with_reducible apply Rv.ins_ne); intro z; cases z; done))))
  | ((with_reducible apply Rv.ne_k2); (focus assumption); (focus keq_hits); (focus (first | (intro z; cases z; done) | ((with_reducible apply Rv.ins_ne); intro z; cases z; done))))
  | ((with_reducible apply Rv.free2); (focus assumption); (focus keq_hits))
  | (with_reducible apply Rv.Ac.refl)
  | ((with_reducible apply Rv.Ac.step'); (focus assumption); (focus kln_le))
  | ((with_reducible apply Rv.Ac.but'); (focus assumption); (focus kln_le); (focus kln_le))
  | (with_reducible apply Rv.Ext.refl)
  | ((with_reducible apply Rv.Ac.ext); (focus kln_le))
  | ((with_reducible apply Rv.sz_le); first | omega | (simp only [List.length_cons, List.length_nil, List.length_map, List.length_append]; omega))
  | ((with_reducible apply Rv.sz_lt); first | omega | (simp only [List.length_cons, List.length_nil, List.length_map, List.length_append]; omega)))
local macro_rules | `(tactic| lcg_sub) => `(tactic| first
  | assumption
  | ((with_reducible apply Rv.Ext.hl); (focus assumption); (focus lcg_sub))
  | ((with_reducible apply Rv.But.hl); (focus assumption); (focus lcg_sub); (focus lcg_sub))
  | ((with_reducible apply Rv.Ac.hl); (focus assumption); (focus lcg_sub))
  | ((with_reducible apply L2.SqL.of); (focus assumption))
  | ((with_reducible apply Rv.Ext.sq); (focus assumption); (focus lcg_sub))
  | ((with_reducible apply Rv.But.sq); (focus assumption); (focus lcg_sub); (focus lcg_sub))
  | ((with_reducible apply Rv.Ac.sq); (focus assumption); (focus lcg_sub))
  | ((with_reducible apply L2.SqT.of); (focus assumption))
  | ((with_reducible apply Rv.Ext.st); (focus assumption); (focus lcg_sub))
  | ((with_reducible apply Rv.But.st); (focus assumption); (focus lcg_sub); (focus lcg_sub))
  | ((with_reducible apply Rv.Ac.st); (focus assumption); (focus lcg_sub))
  | ((with_reducible apply L2.Rd.of); (focus lcg_sub))
  | ((with_reducible apply Rv.RivAt.ext); (focus assumption); (focus lcg_sub))
  | ((with_reducible apply Rv.RivAt.but); (focus assumption); (focus lcg_sub); (focus lcg_sub); (focus lcg_sub))
  | ((with_reducible apply Rv.RivAt.ac); (focus assumption); (focus lcg_sub))
  | (with_reducible apply Rv.nin_nil)
  | ((with_reducible apply Rv.BokAt.ext); (focus assumption); (focus lcg_sub))
  | ((with_reducible apply Rv.DicAt.ne); (focus assumption); (focus kln_le); (focus (intro _ z; cases z)))
  | ((with_reducible apply Rv.DicAt.nf); (focus assumption); (focus kln_le))
  | ((with_reducible apply Rv.Ext.tup); (focus assumption))
  | ((with_reducible apply Rv.Ac.tup); (focus assumption))
  | ((with_reducible apply Rv.nin_cons); (focus lcg_sub); (focus lcg_sub))
  | (with_reducible apply Rv.frs_nil)
  | ((with_reducible apply Rv.frs_cons); (focus lcg_sub); (focus lcg_sub))
  | ((with_reducible apply Ne.symm); (focus assumption))
  | ((with_reducible apply Rv.ne_nf); (focus assumption); (focus kln_le))
  | ((with_reducible apply Rv.ne_fn); (focus assumption); (focus kln_le))
  | ((with_reducible apply Rv.ne_k1); (focus assumption); (focus kln_le); (focus (first | (intro z; cases z; done) | ((with_reducible apply Rv.ins_ne); intro z; cases z; done))))
  | ((with_reducible apply Rv.ne_k2); (focus assumption); (focus kln_le); (focus (first | (intro z; cases z; done) | ((with_reducible apply Rv.ins_ne); intro z; cases z; done))))
  | ((with_reducible apply Rv.free2); (focus assumption); (focus kln_le))
  | (with_reducible apply Rv.Ac.refl)
  | ((with_reducible apply Rv.Ac.step'); (focus assumption); (focus lcg_sub))
  | ((with_reducible apply Rv.Ac.but'); (focus assumption); (focus lcg_sub); (focus lcg_sub))
  | (with_reducible apply Rv.Ext.refl)
  | ((with_reducible apply Rv.Ac.ext); (focus lcg_sub))
  | ((with_reducible apply Rv.sz_le); first | omega | (simp only [List.length_cons, List.length_nil, List.length_map, List.length_append]; omega))
  | ((with_reducible apply Rv.sz_lt); first | omega | (simp only [List.length_cons, List.length_nil, List.length_map, List.length_append]; omega)))
local macro_rules | `(tactic| lcg_off) => `(tactic| first
  | (with_reducible apply Rv.r_seq)
  | (with_reducible apply Rv.r_asg)
  | (with_reducible apply Rv.r_op)
  | ((with_reducible apply Rv.r_var); (focus with_unfolding_all rfl))
  | (with_reducible apply Rv.r_c)
  | (with_reducible apply Rv.r_if)
  | (with_reducible apply Rv.r_test)
  | (with_reducible apply Rv.r_fld)
  | (with_reducible apply Rv.r_cons)
  | (with_reducible apply Rv.r_nil)
  | (with_reducible apply Rv.r_ret)
  | (with_reducible apply Rv.r_drop)
  | (with_reducible apply Rv.r_meth)
  | (with_reducible apply Rv.r_fn)
  | (with_reducible apply Rv.r_CB)
  | (with_reducible apply Rv.r_BM)
  | (with_reducible apply Rv.r_BM0)
  | (with_reducible apply Rv.k_bl)
  | (with_reducible apply Rv.r_not)
  | (with_reducible apply Rv.r_and)
  | (with_reducible apply Rv.r_or)
  | (with_reducible apply Rv.k_andT)
  | (with_reducible apply Rv.k_andF)
  | (with_reducible apply Rv.k_orT)
  | (with_reducible apply Rv.k_orF)
  | (with_reducible apply Rv.r_tB)
  | (with_reducible apply Rv.r_chain)
  | (with_reducible apply Rv.r_un)
  | (with_reducible apply Rv.r_tup)
  | (with_reducible apply Rv.r_lst)
  | (with_reducible apply Rv.r_andV)
  | (with_reducible apply Rv.r_orV)
  | (with_reducible apply Rv.r_notV)
  | (with_reducible apply Rv.r_ifE)
  | (with_reducible apply Rv.k_notV)
  | (with_reducible apply Rv.k_andVT)
  | (with_reducible apply Rv.k_andVF)
  | (with_reducible apply Rv.k_orVT)
  | (with_reducible apply Rv.k_orVF)
  | (with_reducible apply Rv.k_addI)
  | (with_reducible apply Rv.k_subI)
  | ((with_reducible apply Rv.k_mulI); (focus (unfold L2.CMul; omega)))
  | ((with_reducible apply Rv.k_divI); (focus (unfold L2.CDiv; omega)))
  | ((with_reducible apply Rv.k_modI); (focus omega))
  | ((with_reducible apply Rv.k_powI); (focus (unfold L2.CPow; decide)))
  | (with_reducible apply Rv.k_negI)
  | (with_reducible apply Rv.k_ltI)
  | (with_reducible apply Rv.k_leI)
  | (with_reducible apply Rv.k_gtI)
  | (with_reducible apply Rv.k_geI)
  | (with_reducible apply Rv.k_eqI)
  | (with_reducible apply Rv.k_neI)
  | (with_reducible apply Rv.k_eqS)
  | (with_reducible apply Rv.k_neS)
  | (with_reducible apply Rv.k_isNN)
  | (with_reducible apply Rv.k_isNI)
  | (with_reducible apply Rv.k_isNR)
  | (with_reducible apply Rv.k_notNN)
  | (with_reducible apply Rv.k_notNI)
  | (with_reducible apply Rv.k_notNR)
  | ((with_reducible apply Rv.k_tyL); (focus lcg_sub))
  | ((with_reducible apply Rv.k_ixT); (focus lcg_sub); (focus with_unfolding_all rfl))
  | ((with_reducible apply Rv.k_ixL); (focus lcg_sub); (focus with_unfolding_all rfl))
  | ((with_reducible apply Rv.k_lenL); (focus lcg_sub))
  | ((with_reducible apply Rv.k_lenU); (focus lcg_sub))
  | ((with_reducible apply Rv.k_tup); (focus lcg_sub))
  | ((with_reducible apply Rv.k_lst); (focus lcg_sub))
  | ((with_reducible apply Rv.k_list); (focus lcg_sub))
  | ((with_reducible apply Rv.k_append); (focus lcg_sub); (focus lcg_sub))
  | ((with_reducible apply Rv.k_cat); (focus lcg_sub); (focus lcg_sub); (focus lcg_sub))
  | ((with_reducible apply Rv.k_clear); (focus lcg_sub))
  | (with_reducible apply Rv.k_int1)
  | (with_reducible apply Rv.k_max2)
  | (with_reducible apply Rv.k_min2)
  | (with_reducible apply Rv.k_str)
  | (with_reducible apply Rv.k_part)
  | (with_reducible apply Rv.r_M1)
  | (with_reducible apply Rv.r_dget)
  | (with_reducible apply Rv.r_din)
  | (with_reducible apply Rv.r_dnotin)
  | (with_reducible apply Rv.r_dget2)
  | (with_reducible apply Rv.r_sl)
  | (with_reducible apply Rv.r_nopart)
  | (with_reducible apply Rv.r_part)
  | (with_reducible apply Rv.r_for)
  | (with_reducible apply Rv.r_lc)
  | (with_reducible apply Rv.r_yes)
  | (with_reducible apply Rv.r_iList)
  | (with_reducible apply Rv.r_iRng1)
  | (with_reducible apply Rv.r_iRng2)
  | (with_reducible apply Rv.r_iZip)
  | (with_reducible apply Rv.r_iStr)
  | (with_reducible apply Rv.r_iKeys)
  | (with_reducible apply Rv.r_lstRg)
  | ((with_reducible apply Rv.k_itl); (focus lcg_sub))
  | ((with_reducible apply Rv.k_zip); (focus lcg_sub); (focus lcg_sub))
  | ((with_reducible apply Rv.k_rng1); (focus omega))
  | ((with_reducible apply Rv.k_rng2); (focus omega))
  | (with_reducible apply Rv.k_its)
  | (with_reducible apply Rv.r_retN)
  | (with_reducible apply Rv.r_next)
  | (with_reducible apply Rv.r_setF)
  | (with_reducible apply Rv.r_dput)
  | (with_reducible apply Rv.r_setI)
  | (with_reducible apply Rv.r_raise)
  | (with_reducible apply Rv.r_wF)
  | (with_reducible apply Rv.k_ifTT)
  | (with_reducible apply Rv.k_ifFF)
  | (with_reducible apply Rv.k_ifNT)
  | (with_reducible apply Rv.k_ifNF)
  | (with_reducible apply Rv.k_andNT)
  | (with_reducible apply Rv.k_andNF)
  | (with_reducible apply Rv.k_orNT)
  | (with_reducible apply Rv.k_orNF)
  | (with_reducible apply Rv.k_andVNT)
  | (with_reducible apply Rv.k_andVNF)
  | (with_reducible apply Rv.k_orVNT)
  | (with_reducible apply Rv.k_orVNF)
  | (with_reducible apply Rv.k_isB_ii)
  | (with_reducible apply Rv.k_isB_ib)
  | (with_reducible apply Rv.k_isB_bi)
  | (with_reducible apply Rv.k_isB_bb)
  | (with_reducible apply Rv.k_isB_ni)
  | (with_reducible apply Rv.k_isB_ss)
  | ((with_reducible apply Rv.k_isB_ll); (focus lcg_sub))
  | ((with_reducible apply Rv.k_isB_tt); (focus lcg_sub))
  | (with_reducible apply Rv.r_mk)
  | (with_reducible apply Rv.r_rg1)
  | (with_reducible apply Rv.k_rg1)
  | (with_reducible apply Rv.r_dpop1)
  | (with_reducible apply Rv.k_ifNNT)
  | (with_reducible apply Rv.k_ifNNF)
  | (with_reducible apply Rv.r_dropE)
  | (with_reducible apply Rv.r_dropR)
  | (with_reducible apply Rv.r_dropN)
  | (with_reducible apply Rv.r_dropM))
namespace Rv
open PySem L2
open SX (S S_inj S_len S_cat join_S num_S S_tl lens)
-- shown: 0 book 1 river 2 below 3 point 4 lines 5 name 6 row 7 words
def t_shown (c : Cs) (E : XK) : TS :=
  (tSeq (tAsg (tMethS c.book "river" (sp_Book_river c) (wF E) (tVar 0) tNil) (gName 1))
  (tSeq (tAsg (tOp rCat (tLst (tCons (tC (.str "-")) tNil)) (tLc (iRng2 (tCons (tC (.int 1)) (tCons (tMethS c.river "points" (sp_River_points c) (wF E) (tVar 1) tNil) tNil))) (gName 3) tYes (tCB rStrI (tCons (tMethS c.river "below" (sp_River_below c) wN (tVar 1) (tCons (tVar 3) tNil)) tNil)) [3])) (gName 2))
  (tSeq (tAsg (tLst (tCons (tM1 (rJoin c.K) (tC (.str " ")) (tOp rCat (tLst (tCons (tC (.str "river")) tNil)) (tVar 2))) tNil)) (gName 4))
  (tSeq (tFor (iList c.K (tMethS c.book "names" (sp_Book_names c) (wF E) (tVar 0) tNil)) (gName 5)
  (tSeq (tAsg (tMethS c.book "right" (sp_Book_right c) (wF E) (tVar 0) (tCons (tVar 5) tNil)) (gName 6))
  (tSeq (tAsg (tLst (tCons (tVar 5) (tCons (tC (.str "at")) (tCons (tCB rStrI (tCons (tOp (rIxT c.K) (tVar 6) (tC (.int 0))) tNil)) (tCons (tC (.str "wants")) (tCons (tCB rStrI (tCons (tOp (rIxT c.K) (tVar 6) (tC (.int 1))) tNil)) (tCons (tC (.str "since")) (tCons (tCB rStrI (tCons (tOp (rIxT c.K) (tVar 6) (tC (.int 2))) tNil)) tNil)))))))) (gName 7))
  (tDrop (tBM c.K "list" rAppend (tVar 4) (tCons (tM1 (rJoin c.K) (tC (.str " ")) (tVar 7)) tNil))))))
  (tRet (tM1 (rJoin c.K) (tC (.str "\n")) (tVar 4)))))))
-- l_text: 0 below 1 rights 2 text 3 point 4 right
def t_l_text (c : Cs) (E : XK) : TS :=
  (tSeq (tAsg (tC (.str "river -")) (gName 2))
  (tSeq (tFor (iList c.K (tSl (rSlL c.K) (tVar 0) (tPart (tC (.int 1))) tNoPart)) (gName 3)
  (tAsg (tOp rCatS (tOp rCatS (tVar 2) (tC (.str " "))) (tCB rStrI (tCons (tVar 3) tNil))) (gName 2)))
  (tSeq (tFor (iList c.K (tFn (sp_l_aged c) (wF E) (tCons (tVar 1) tNil))) (gName 4)
  (tSeq (tAsg (tOp rCatS (tOp rCatS (tOp rCatS (tOp rCatS (tVar 2) (tC (.str "\n"))) (tOp (rIxT c.K) (tVar 4) (tC (.int 0)))) (tC (.str " at "))) (tCB rStrI (tCons (tOp (rIxT c.K) (tVar 4) (tC (.int 1))) tNil))) (gName 2))
  (tSeq (tAsg (tOp rCatS (tOp rCatS (tVar 2) (tC (.str " wants "))) (tCB rStrI (tCons (tOp (rIxT c.K) (tVar 4) (tC (.int 2))) tNil))) (gName 2))
  (tAsg (tOp rCatS (tOp rCatS (tVar 2) (tC (.str " since "))) (tCB rStrI (tCons (tOp (rIxT c.K) (tVar 4) (tC (.int 3))) tNil))) (gName 2)))))
  (tRet (tVar 2)))))
section
variable {c : Cs}
theorem pure_shown (vs : List V) (H : Hp) (Q : VK) (E : XK) (h : sp_shown c vs H Q E) : t_shown c E { nx := fun _ H' => Q .non H', rt := Q } (start ["book", "river", "below", "point", "lines", "name", "row", "words"] vs) H := by
  obtain ⟨b, r, l, B, d, R, rfl, A, hok, k⟩ := h
  have hB := A.riv.ok
  have hf := hB.few
  have hRl := A.few
  have hal := agedR_len R
  unfold t_shown
  rw [dashS, spaceS, riverS, lineS]
  repeat lcg_off
  refine k_meth A.ob.choose_spec (by lcg_src) ?_
  repeat lcg_off
  refine ⟨b, r, l, B, d, R, rfl, A, ?_⟩
  repeat lcg_off
  intro q1 H1 hq1 e1 h1
  have A1 := A.ext e1
  repeat lcg_off
  refine k_meth A1.riv.ob.choose_spec (by lcg_src) ?_
  repeat lcg_off
  refine ⟨r, l, B, rfl, A1.riv, ?_⟩
  repeat lcg_off
  have en : ((B.length : Int) + 1 - 1).toNat = B.length := by omega
  rw [en]
  refine k_lcR (fun _ => true) (fun i => .str (S (TL.numL (B.getD i 0)))) (fun x => rfl) (by omega) (fun i hi H2 ac QB q => by (repeat lcg_off); exact q H2 (Ext.refl _)) (fun i hi _ H2 ac Q1 q => ?_) (fun D H2 hD e2 h2 => ?_)
  · have A2 := A1.ext ac.ext
    repeat lcg_off
    refine k_meth A2.riv.ob.choose_spec (by lcg_src) ?_
    repeat lcg_off
    refine ⟨r, l, B, _, rfl, A2.riv, fun p hp hpl => ?_, fun z => absurd (by omega) z⟩
    obtain rfl : p = i + 1 := by omega
    have hlo := hB.low i hi
    refine k_strP (n := B.getD i 0) (by omega) ?_
    exact q H2 (Ext.refl _)
  rw [filter_yes] at h2
  have h2' : H2 D = some (.lst (((B.map TL.numL).map S).map V.str)) := by
    rw [h2]
    refine congrArg (fun z => some (HO.lst z)) (List.ext_getElem? fun i => ?_)
    rw [List.getElem?_map, List.getElem?_map, List.getElem?_map, List.getElem?_map]
    by_cases hi : i < B.length
    · rw [List.getElem?_range hi, List.getElem?_eq_getElem hi]
      show some (V.str (S (TL.numL (B.getD i 0)))) = some (V.str (S (TL.numL B[i])))
      rw [List.getD_eq_getElem?_getD, List.getElem?_eq_getElem hi]
      rfl
    · rw [List.getElem?_eq_none (l := List.range B.length) (by rw [List.length_range]; omega), List.getElem?_eq_none (l := B) (by omega)]
      rfl
  refine k_cat (e2.g _ _ h1) h2' (sz_le (by rw [List.length_map, List.length_map, List.length_map]; show 1 + _ ≤ _; omega)) fun q3 H3 hq3 e3 h3 => ?_
  repeat lcg_off
  intro q4 H4 hq4 e4 h4
  repeat lcg_off
  try refine k_cat h4 (e4.g _ _ h3) (sz_le (by rw [List.length_append, List.length_map, List.length_map, List.length_map]; show 1 + (1 + _) ≤ _; omega)) ?_
  intro q5 H5 hq5 e5 h5
  have h5' : H5 q5 = some (.lst (((riverL :: [45] :: B.map TL.numL).map S).map V.str)) := h5
  refine k_join (ys := (riverL :: [45] :: B.map TL.numL).map S) (SqL.of h5') ?_ ?_
  · have h6 := sum_le (f := fun x : List Nat => x.length) (head_words hB)
    rw [lens, List.length_map]
    rw [List.length_cons, List.length_cons, List.length_map] at h6 ⊢
    rw [S_len]
    show _ + _ * 1 ≤ _
    omega
  rw [join_S]
  repeat lcg_off
  intro q6 H6 hq6 e6 h6
  have e16 := ((((e1.trans e2).trans e3).trans e4).trans e5).trans e6
  have A6 := A.ext e16
  repeat lcg_off
  refine k_meth A6.ob.choose_spec (by lcg_src) ?_
  repeat lcg_off
  refine ⟨b, r, l, B, d, R, rfl, A6, fun p7 H7 hp7 e7 h7 => ?_⟩
  have A7 := A6.ext e7
  have hq67 := e7.g _ _ h6
  have npq : p7 ≠ q6 := ne_fn hp7 h6
  have nl : l ≠ q6 := ne_nf hq6 (((((A.riv.ext e1).ext e2).ext e3).ext e4).ext e5).li
  repeat lcg_off
  refine k_forL (fun i σ H' => (∃ v5 v6 v7, σ = [some (.ref b), some (.ref r), some (.ref q3), none, some (.ref q6), v5, v6, v7]) ∧ But [q6] H7 H' ∧ H' q6 = some (.lst (((headL B :: ((agedR R).take i).map lineL).map S).map V.str))) ⟨⟨_, _, _, rfl⟩, (Ext.refl _).but, hq67⟩ (fun i σ H' _ q => SqL.of (q.2.1.g _ _ h7 (nin_cons npq nin_nil))) ?_ ?_
  · rintro i v σ H8 hv ⟨⟨v5, v6, v7, rfl⟩, b8, h8⟩
    rw [List.getElem?_map] at hv
    obtain ⟨w, hw, rfl⟩ := Option.map_eq_some_iff.mp hv
    have hwR : w ∈ R := agedR_mem.mp (List.mem_of_getElem? hw)
    have ok := hok w hwR
    have hi := get_lt hw
    have t8 : TupE H7 H8 := b8.tupL hq67
    have A8 : BokAt c H8 b r l B d R := A7.but b8 t8 (nin_cons (ne_k1 A7.ob.choose_spec hq67 (by intro z; cases z)) nin_nil) (nin_cons (ne_k1 A7.riv.ob.choose_spec hq67 (by intro z; cases z)) nin_nil) (nin_cons nl nin_nil) (nin_cons (A7.dic.ne hq67 fun _ z => by cases z).symm nin_nil)
    show tSeq _ _ _ [some (.ref b), some (.ref r), some (.ref q3), none, some (.ref q6), some (.str w.n), v6, v7] _
    repeat lcg_off
    refine k_meth A8.ob.choose_spec (by lcg_src) ?_
    repeat lcg_off
    refine ⟨b, r, l, B, d, R, w.n, rfl, A8, fun w' hw' e t ht => ?_, fun z => absurd (List.mem_map.mpr ⟨w, hwR, rfl⟩) z⟩
    obtain rfl := nodup_inj A.nd hw' hwR e
    have hp40 := ok.p
    have ha0 := ok.a0
    have ha1 := ok.a1
    have hd0 := ok.d0
    have hd1 := ok.d1
    repeat lcg_off
    try refine k_strP (n := w'.p) (by omega) ?_
    repeat lcg_off
    try refine k_strA ha0 (by omega) ?_
    repeat lcg_off
    try refine k_strA hd0 (by omega) ?_
    repeat lcg_off
    rw [atS, wantsS, sinceS]
    intro q9 H9 hq9 e9 h9
    have h9' : H9 q9 = some (.lst (((wordsL w').map S).map V.str)) := by
      rw [h9]
      rfl
    repeat lcg_off
    refine k_join (ys := (wordsL w').map S) (SqL.of h9') ?_ ?_
    · have h6 := sum_le (f := fun x : List Nat => x.length) (words_small ok)
      rw [lens, List.length_map]
      have h7 : (wordsL w').length = 7 := rfl
      rw [h7] at h6 ⊢
      rw [S_len]
      show _ + 7 * 1 ≤ _
      omega
    rw [join_S]
    have h89 := e9.g _ _ h8
    repeat lcg_off
    try refine k_append h89 (sz_lt (by rw [List.length_map, List.length_map, List.length_cons, List.length_map, List.length_take]; omega)) ?_
    intro H10 b10 h10
    repeat lcg_off
    refine ⟨⟨_, _, _, rfl⟩, (b8.step e9).trans b10, ?_⟩
    rw [h10, take_snoc hw]
    simp only [List.map_append, List.map_cons, List.map_nil, List.cons_append, List.append_assoc]
    rfl
  · rintro σ H8 ⟨⟨v5, v6, v7, rfl⟩, b8, h8⟩
    rw [List.length_map, List.take_length] at h8
    repeat lcg_off
    refine k_join (ys := (headL B :: (agedR R).map lineL).map S) (SqL.of h8) ?_ ?_
    · have h6 := sum_le (f := fun x : List Nat => x.length) (lines_small (L := agedR R) hB fun w hw => hok w (agedR_mem.mp hw))
      rw [lens, List.length_map]
      rw [List.length_cons, List.length_map] at h6 ⊢
      rw [S_len]
      show _ + _ * 1 ≤ _
      omega
    rw [join_S]
    exact k H8 ((e16.trans e7).ac.but b8 (frs_cons (((((e1.trans e2).trans e3).trans e4).trans e5).free hq6) frs_nil)).ext
theorem k_catL {x y : List Nat} {H : Hp} {Q : VK} (h : x.length + y.length ≤ 100000) (q : Q (.str (S (x ++ y))) H) : rCatS (.str (S x)) (.str (S y)) H Q := by
  refine k_catS (sz_le (by rw [S_len, S_len]; exact h)) ?_
  rw [S_cat]
  exact q
theorem pure_l_text (vs : List V) (H : Hp) (Q : VK) (E : XK) (h : sp_l_text c vs H Q E) : t_l_text c E { nx := fun _ H' => Q .non H', rt := Q } (start ["below", "rights", "text", "point", "right"] vs) H := by
  obtain ⟨b, p, B, R, rfl, hb, hB, P, nd, hok, hRl, k⟩ := h
  have hf := hB.few
  have hal := agedR_len R
  unfold t_l_text
  rw [spaceS, lineS, show Str.ofString "river -" = S (riverL ++ [32, 45]) by decide +kernel, show Str.ofString " at " = S ([32] ++ atL ++ [32]) by decide +kernel, show Str.ofString " wants " = S ([32] ++ wantsL ++ [32]) by decide +kernel, show Str.ofString " since " = S ([32] ++ sinceL ++ [32]) by decide +kernel]
  repeat lcg_off
  refine k_slL hb fun z H1 hz e1 h1 => ?_
  rw [show (1 : Int) = ((1 : Nat) : Int) from rfl, cutV_from (by rw [belV_len]; omega)] at h1
  have h1' : H1 z = some (.lst (B.map nV)) := h1
  repeat lcg_off
  refine k_forL (fun i σ H' => (∃ v3 v4, σ = [some (.ref b), some (.ref p), some (.str (S (riverL ++ tailsL [32] ([45] :: (B.take i).map TL.numL)))), v3, v4]) ∧ H' = H1) ⟨⟨_, _, rfl⟩, rfl⟩ (fun i σ H' _ q => by rw [q.2]; exact SqL.of h1') ?_ ?_
  · rintro i v σ H2 hv ⟨⟨v3, v4, rfl⟩, rfl⟩
    rw [List.getElem?_map] at hv
    obtain ⟨q, hq, rfl⟩ := Option.map_eq_some_iff.mp hv
    have hqB := bel_small hB (List.mem_of_getElem? hq)
    have hi := get_lt hq
    have hl : (riverL ++ tailsL [32] ([45] :: (B.take i).map TL.numL)).length ≤ 400 := by
      have h2 := tails_len (s := [32]) (k := 7) (ys := [45] :: (B.take i).map TL.numL) fun y hy => by
        rcases List.mem_cons.mp hy with e | hy
        · rw [e]; decide
        obtain ⟨q, hq, rfl⟩ := List.mem_map.mp hy
        exact num_small (by have := bel_small hB (List.mem_of_mem_take hq); omega)
      have h3 : ([32] : List Nat).length = 1 := rfl
      have h4 : riverL.length = 5 := rfl
      rw [h3, List.length_cons, List.length_map, List.length_take] at h2
      rw [List.length_append, h4]
      omega
    have hnl := num_small (n := q) (by omega)
    rw [take_snoc hq, List.map_append, show [q].map TL.numL = [TL.numL q] from rfl, ← List.cons_append, tails_snoc, ← List.append_assoc]
    generalize riverL ++ tailsL [32] ([45] :: (B.take i).map TL.numL) = T at hl ⊢
    show tAsg _ _ _ [some (.ref b), some (.ref p), some (.str (S T)), some (nV q), v4] _
    repeat lcg_off
    refine k_catL (by rw [List.length_cons, List.length_nil]; omega) ?_
    repeat lcg_off
    refine k_strP (n := q) (by omega) ?_
    refine k_catL (by rw [List.length_append, List.length_cons, List.length_nil]; omega) ?_
    repeat lcg_off
    refine ⟨⟨some (nV q), v4, ?_⟩, rfl⟩
    rw [List.append_assoc]
    rfl
  rintro σ H2 ⟨⟨v3, v4, rfl⟩, rfl⟩
  rw [List.length_map, List.take_length, ← joinL_cons]
  repeat lcg_off
  refine ⟨p, R, rfl, P.ext e1, nd, hRl, fun ag H3 hag e3 P3 => ?_⟩
  obtain ⟨xs, hx, px⟩ := P3.ex
  have hxl := paired_len px
  repeat lcg_off
  have hhl := head_len hB
  refine k_forL (fun i σ H' => (∃ v3 v4, σ = [some (.ref b), some (.ref p), some (.str (S (headL B ++ tailsL [10] (((agedR R).take i).map lineL)))), v3, v4]) ∧ H' = H3) ⟨⟨_, _, by
    show _ = [_, _, some (V.str (S (headL B ++ []))), _, _]
    rw [List.append_nil]
    rfl⟩, rfl⟩ (fun i σ H' _ q => by rw [q.2]; exact SqL.of hx) ?_ ?_
  · rintro i v σ H4 hv ⟨⟨v3, v4, rfl⟩, rfl⟩
    obtain ⟨w, hw, t, rfl, ht⟩ := paired_at px i v hv
    have hi := get_lt hw
    have ok := hok w (agedR_mem.mp (List.mem_of_getElem? hw))
    have hll := line_len ok
    have hl : (headL B ++ tailsL [10] (((agedR R).take i).map lineL)).length ≤ 64000 := by
      have h2 := tails_len (s := [10]) (k := 62) (ys := ((agedR R).take i).map lineL) fun y hy => by
        obtain ⟨w, hw, rfl⟩ := List.mem_map.mp hy
        exact line_len (hok w (agedR_mem.mp (List.mem_of_mem_take hw)))
      have h3 : ([10] : List Nat).length = 1 := rfl
      rw [h3, List.length_map, List.length_take] at h2
      rw [List.length_append]
      omega
    rw [take_snoc hw, List.map_append, show [w].map lineL = [lineL w] from rfl, tails_snoc, ← List.append_assoc]
    generalize headL B ++ tailsL [10] (((agedR R).take i).map lineL) = T at hl ⊢
    have hn8 : w.n.cps.toList.length ≤ 8 := ok.n
    have hp40 := ok.p
    have ha0 := ok.a0
    have ha1 := ok.a1
    have hd0 := ok.d0
    have hd1 := ok.d1
    have l1 := num_small (n := w.p) (by omega)
    have l2 := num_small (n := w.a.toNat) (by omega)
    have l3 := num_small (n := w.d.toNat) (by omega)
    have ht' : H4 t = some (.tup [.str (S w.n.cps.toList), nV w.p, .int w.a, .int w.d]) := ht
    show tSeq _ _ _ [some (.ref b), some (.ref p), some (.str (S T)), v3, some (.ref t)] _
    repeat lcg_off
    refine k_catL (by rw [List.length_cons, List.length_nil]; omega) ?_
    repeat lcg_off
    refine k_catL (by simp only [List.length_append, List.length_cons, List.length_nil]; omega) ?_
    repeat lcg_off
    refine k_catL (by simp only [List.length_append, List.length_cons, List.length_nil, atL]; omega) ?_
    repeat lcg_off
    refine k_strP (n := w.p) (by omega) ?_
    refine k_catL (by simp only [List.length_append, List.length_cons, List.length_nil, atL]; omega) ?_
    repeat lcg_off
    refine k_catL (by simp only [List.length_append, List.length_cons, List.length_nil, atL, wantsL]; omega) ?_
    repeat lcg_off
    refine k_strA ha0 (by omega) ?_
    refine k_catL (by simp only [List.length_append, List.length_cons, List.length_nil, atL, wantsL]; omega) ?_
    repeat lcg_off
    refine k_catL (by simp only [List.length_append, List.length_cons, List.length_nil, atL, wantsL, sinceL]; omega) ?_
    repeat lcg_off
    refine k_strA hd0 (by omega) ?_
    refine k_catL (by simp only [List.length_append, List.length_cons, List.length_nil, atL, wantsL, sinceL]; omega) ?_
    repeat lcg_off
    refine ⟨⟨v3, some (.ref t), ?_⟩, rfl⟩
    have e : T ++ [10] ++ w.n.cps.toList ++ ([32] ++ atL ++ [32]) ++ TL.numL w.p ++ ([32] ++ wantsL ++ [32]) ++ TL.numL w.a.toNat ++ ([32] ++ sinceL ++ [32]) ++ TL.numL w.d.toNat = T ++ ([10] ++ lineL w) := by
      unfold lineL wordsL
      rw [joinL_cons]
      unfold tailsL
      simp [List.append_assoc]
    rw [← e]
    rfl
  · rintro σ H4 ⟨⟨v3, v4, rfl⟩, rfl⟩
    rw [hxl, List.take_length, ← joinL_cons]
    repeat lcg_off
    exact k H4 (e1.trans e3)
end
end Rv

end
section
namespace Rv
open PySem L2
open SX (S S_inj S_len S_cat join_S num_S S_tl lens split_S int_S)
/-! ### steps -/
def tNever : TS := fun _ _ _ => False
theorem ps_never {X : Cx} {st : Stmt} : PS X st tNever := ⟨fun _ _ _ _ _ _ h => h.elim⟩
def rIsO (C : Addr) : List V → Hp → VK → Prop := fun xs H Q => ∃ a dx fs, xs = [.ref a, .ref C] ∧ H a = some (.ins C dx fs) ∧ Q (.bl true) H
theorem c_isO {X : Cx} {C : Addr} (h : C8.InsC X.K C) : CallR X (.builtin "isinstance") (rIsO C) := C8.call_isC h
theorem k_isO {C a dx : Addr} {fs : List (Str × V)} {H : Hp} {Q : VK} (h : H a = some (.ins C dx fs)) (q : Q (.bl true) H) : rIsO C [.ref a, .ref C] H Q := ⟨a, dx, fs, rfl, h, q⟩
theorem k_split {a b : List Nat} {H : Hp} {Q : VK} (hb : b ≠ []) (hk : b.all (· < 256) = true) (hl : a.length + 2 ≤ 100000) (q : ∀ p H', H p = none → Ext H H' → H' p = some (.lst (((TL.spl b 0 [] a).map S).map V.str)) → Q (.ref p) H') : rSplit (.str (S a)) [.str (S b)] H Q := by
  refine ⟨S a, S b, rfl, rfl, ?_, sz_le (by rw [S_len]; exact hl), fun p hp => q p _ hp (ext_new hp) ?_⟩
  · rw [S_len]
    cases b with
    | nil => exact absurd rfl hb
    | cons x b => rfl
  · rw [split_S hb hk]
    exact upd_same
theorem k_notInS {x : Nat} {z : List Nat} {H : Hp} {Q : VK} (q : Q (.bl (!decide (x ∈ z))) H) : rNotInS (.str ⟨#[x]⟩) (.str (S z)) H Q := ⟨x, S z, rfl, rfl, q⟩
/-! ### numbers, names -/
def figL : List Nat := (List.range 10).map (48 + ·)
theorem fig_eq : Str.ofString "0123456789" = S figL := by decide +kernel
theorem fig_mem {x : Nat} : x ∈ figL ↔ 48 ≤ x ∧ x ≤ 57 := by
  unfold figL
  rw [List.mem_map]
  constructor
  · rintro ⟨k, hk, rfl⟩
    have := List.mem_range.mp hk
    omega
  · rintro ⟨h1, h2⟩
    exact ⟨x - 48, List.mem_range.mpr (by omega), by omega⟩
theorem let_mem {x : Nat} : x ∈ lettersL ↔ 97 ≤ x ∧ x < 123 := by
  unfold lettersL
  rw [List.mem_map]
  constructor
  · rintro ⟨k, hk, rfl⟩
    have := List.mem_range.mp hk
    omega
  · rintro ⟨h1, h2⟩
    exact ⟨x - 97, List.mem_range.mpr (by omega), by omega⟩
def numOk (w : List Nat) (most : Int) : Prop := 1 ≤ w.length ∧ w.length ≤ 7 ∧ (∀ x ∈ w, x ∈ figL) ∧ ((NumText.digitsVal w : Nat) : Int) ≤ most
def nameOk (w : List Nat) : Prop := 1 ≤ w.length ∧ w.length ≤ 8 ∧ ∀ x ∈ w, x ∈ lettersL
theorem numL_ok {n : Nat} {most : Int} (h1 : n < 10000000) (h2 : (n : Int) ≤ most) : numOk (TL.numL n) most := by
  refine ⟨?_, num_small h1, fun x hx => fig_mem.mpr (TL.numL_digits n x hx), by rw [TL.numL_val]; exact h2⟩
  have := TL.numL_ne n
  cases h : TL.numL n with
  | nil => exact absurd h this
  | cons x l => exact Nat.succ_pos _
def sp_number (c : Cs) : Sp := fun vs H Q E => ∃ w most, vs = [.str (S w), .int most] ∧ w.length ≤ 90000 ∧ (numOk w most → Q (.int ((NumText.digitsVal w : Nat) : Int)) H) ∧ (¬ numOk w most → E (.ref c.badText) none H)
def sp_is_name (c : Cs) : Sp := fun vs H Q E => ∃ w, vs = [.str (S w)] ∧ w.length ≤ 90000 ∧ (nameOk w → Q (.bl true) H) ∧ (¬ nameOk w → Q (.bl false) H)
def badHead (z : List Nat) : Prop := (TL.spl [32] 0 [] z).length < 2 ∨ (TL.spl [32] 0 [] z)[0]? ≠ some riverL ∨ (TL.spl [32] 0 [] z)[1]? ≠ some [45]
def sp_river_of (c : Cs) : Sp := fun vs H Q E => ∃ z, vs = [.str (S z)] ∧ z.length ≤ 90000 ∧ ((∃ B, Riv B ∧ z = headL B ∧ ∀ x l H', H x = none → H l = none → x ≠ l → Ext H H' → RivAt c H' x l B → Q (.ref x) H') ∨ (badHead z ∧ ∀ H', Ext H H' → E (.ref c.badText) none H'))
def sp_granted (c : Cs) : Sp := fun vs H Q E => ∃ b r l B d R w, vs = [.ref b, .str (S (lineL w))] ∧ BokAt c H b r l B d R ∧ okW w ∧ nameOk w.n.cps.toList ∧ w.p ≤ B.length ∧ w.n ∉ R.map Rw.n ∧ R.length < 1000 ∧
  ∀ H', But [d] H H' → TupE H H' → BokAt c H' b r l B d (R ++ [w]) → Q .non H'
def sp_read (c : Cs) : Sp := fun vs H Q E => ∃ z, vs = [.str (S z)] ∧ ((∃ B R, z = textL B R ∧ Riv B ∧ (R.map Rw.n).Nodup ∧ (∀ w ∈ R, okW w ∧ nameOk w.n.cps.toList ∧ w.p ≤ B.length) ∧ R.length ≤ 40 ∧
    ∀ x r l d H', H x = none → H r = none → H l = none → H d = none → Ext H H' → BokAt c H' x r l B d (agedR R) → Q (.ref x) H') ∨
  (z.length ≤ 1000 ∧ (∀ x ∈ z, x ≠ 10) ∧ badHead z ∧ ∀ H', Ext H H' → E (.ref c.badText) none H'))
theorem joinL_free {s : Nat} {sep : List Nat} (hs : s ∉ sep) : ∀ {ps : List (List Nat)}, (∀ p ∈ ps, s ∉ p) → s ∉ TL.joinL sep ps
  | [], _ => fun h => by cases h
  | p :: ps, hp => by
    rw [joinL_cons]
    intro h
    rcases List.mem_append.mp h with h | h
    · exact hp p List.mem_cons_self h
    · unfold tailsL at h
      obtain ⟨y, hy, hsy⟩ := List.mem_flatten.mp h
      obtain ⟨q, hq, rfl⟩ := List.mem_map.mp hy
      rcases List.mem_append.mp hsy with h | h
      · exact hs h
      · exact hp q (List.mem_cons_of_mem _ hq) h
theorem name_free {w : List Nat} (h : nameOk w) {s : Nat} (hs : s < 97) : s ∉ w := fun z => by
  have := let_mem.mp (h.2.2 s z)
  omega
theorem words_free {w : Rw} (h : nameOk w.n.cps.toList) {s : Nat} (hs : s < 48) : ∀ p ∈ wordsL w, s ∉ p := by
  intro p hp
  unfold wordsL at hp
  simp only [List.mem_cons, List.not_mem_nil, or_false] at hp
  have hd : ∀ n, s ∉ TL.numL n := fun n => TL.numL_free (.inl hs)
  have ha : s ∉ atL ∧ s ∉ wantsL ∧ s ∉ sinceL := by
    unfold atL wantsL sinceL
    simp only [List.mem_cons, List.not_mem_nil, or_false, not_or]
    omega
  rcases hp with e | e | e | e | e | e | e <;> rw [e]
  · exact name_free h (by omega)
  · exact ha.1
  · exact hd _
  · exact ha.2.1
  · exact hd _
  · exact ha.2.2
  · exact hd _
theorem head_free {B : List Nat} {s : Nat} (hs : s < 45) : ∀ p ∈ (riverL :: [45] :: B.map TL.numL), s ∉ p := by
  intro p hp
  rcases List.mem_cons.mp hp with e | hp
  · rw [e]
    unfold riverL
    simp only [List.mem_cons, List.not_mem_nil, or_false, not_or]
    omega
  rcases List.mem_cons.mp hp with e | hp
  · rw [e]
    simp only [List.mem_cons, List.not_mem_nil, or_false]
    omega
  obtain ⟨q, _, rfl⟩ := List.mem_map.mp hp
  exact TL.numL_free (.inl (by omega))
theorem spl_line {w : Rw} (h : nameOk w.n.cps.toList) : TL.spl [32] 0 [] (lineL w) = wordsL w := by
  unfold lineL
  exact TL.spl_join (by unfold wordsL; simp) (words_free h (by omega))
theorem spl_head (B : List Nat) : TL.spl [32] 0 [] (headL B) = riverL :: [45] :: B.map TL.numL := TL.spl_join (by simp) (head_free (by omega))
theorem spl_text {B : List Nat} {R : List Rw} (h : ∀ w ∈ R, nameOk w.n.cps.toList) : TL.spl [10] 0 [] (textL B R) = headL B :: (agedR R).map lineL := by
  refine TL.spl_join (by simp) fun p hp => ?_
  rcases List.mem_cons.mp hp with e | hp
  · rw [e]
    exact joinL_free (by decide) (head_free (by omega))
  · obtain ⟨w, hw, rfl⟩ := List.mem_map.mp hp
    exact joinL_free (by decide) (words_free (h w (agedR_mem.mp hw)) (by omega))
end Rv
local macro_rules | `(tactic| lcg_src) => `(tactic| first
  | assumption
  | (with_reducible exact Rv.lk_here)
  | (refine (Rv.lk_past (by decide +kernel)).trans ?_; lcg_src)
  | (with_unfolding_all exact rfl))
local macro_rules | `(tactic| keq_hits) => `(tactic| first
  | assumption
  | ((with_reducible apply Rv.Ext.hl); (focus assumption); (focus keq_hits))
  | ((with_reducible apply Rv.But.hl); (focus assumption); (focus keq_hits); (focus keq_hits))
  | ((with_reducible apply Rv.Ac.hl); (focus assumption); (focus keq_hits))
  | ((with_reducible apply L2.SqL.of); (focus assumption))
  | ((with_reducible apply Rv.Ext.sq); (focus assumption); (focus keq_hits))
  | ((with_reducible apply Rv.But.sq); (focus assumption); (focus keq_hits); (focus keq_hits))
  | ((with_reducible apply Rv.Ac.sq); (focus assumption); (focus keq_hits))
  | ((with_reducible apply L2.SqT.of); (focus assumption))
  | ((with_reducible apply Rv.Ext.st); (focus assumption); (focus keq_hits))
  | ((with_reducible apply Rv.But.st); (focus assumption); (focus keq_hits); (focus keq_hits))
  | ((with_reducible apply Rv.Ac.st); (focus assumption); (focus keq_hits))
  | ((with_reducible apply L2.Rd.of); (focus keq_hits))
  | ((with_reducible apply Rv.RivAt.ext); (focus assumption); (focus keq_hits))
  | ((with_reducible apply Rv.RivAt.but); (focus assumption); (focus keq_hits); (focus keq_hits); (focus keq_hits))
  | ((with_reducible apply Rv.RivAt.ac); (focus assumption); (focus keq_hits))
  | (with_reducible apply Rv.nin_nil)
  | ((with_reducible apply Rv.BokAt.ext); (focus assumption); (focus keq_hits))
  | ((with_reducible apply Rv.DicAt.ne); (focus assumption); (focus assumption); (focus (intro _ z; cases z)))
  | ((with_reducible apply Rv.DicAt.nf); (focus assumption); (focus assumption))
  | ((with_reducible apply Rv.Ext.tup); (focus assumption))
  | ((with_reducible apply Rv.Ac.tup); (focus assumption))
  | ((with_reducible apply Rv.nin_cons); (focus keq_hits); (focus keq_hits))
  | (with_reducible apply Rv.frs_nil)
  | ((with_reducible apply Rv.frs_cons); (focus keq_hits); (focus keq_hits))
  | ((with_reducible apply Ne.symm); (focus assumption))
  | ((with_reducible apply Rv.ne_nf); (focus assumption); (focus assumption))
  | ((with_reducible apply Rv.ne_fn); (focus assumption); (focus assumption))
  | ((with_reducible apply Rv.ne_k1); (focus assumption); (focus assumption); (focus (first | (intro z; cases z; done) | ((with_reducible apply Rv.ins_ne); intro z; cases z; done))))
  | ((with_reducible apply Rv.ne_k2); (focus assumption); (focus assumption); (focus (first | (intro z; cases z; done) | ((with_reducible apply Rv.ins_ne); intro z; cases z; done))))
  | ((with_reducible apply Rv.free2); (focus assumption); (focus assumption))
  | (with_reducible apply Rv.Ac.refl)
  | ((with_reducible apply Rv.Ac.step'); (focus assumption); (focus keq_hits))
  | ((with_reducible apply Rv.Ac.but'); (focus assumption); (focus keq_hits); (focus keq_hits))
  | (with_reducible apply Rv.Ext.refl)
  | ((with_reducible apply Rv.Ac.ext); (focus keq_hits))
  | ((with_reducible apply Rv.sz_le); first | omega | (simp only [List.length_cons, List.length_nil, List.length_map, List.length_append]; omega))
  | ((with_reducible apply Rv.sz_lt); first | omega | (simp only [List.length_cons, List.length_nil, List.length_map, List.length_append]; omega)))
local macro_rules | `(tactic| kln_le) => `(tactic| first
  | assumption
  | ((with_reducible apply Rv.Ext.hl); (focus assumption); (focus kln_le))
  | ((with_reducible apply Rv.But.hl); (focus assumption); (focus kln_le); (focus kln_le))
  | ((with_reducible apply Rv.Ac.hl); (focus assumption); (focus kln_le))
  | ((with_reducible apply L2.SqL.of); (focus assumption))
  | ((with_reducible apply Rv.Ext.sq); (focus assumption); (focus kln_le))
  | ((with_reducible apply Rv.But.sq); (focus assumption); (focus kln_le); (focus kln_le))
  | ((with_reducible apply Rv.Ac.sq); (focus assumption); (focus kln_le))
  | ((with_reducible apply L2.SqT.of); (focus assumption))
  | ((with_reducible apply Rv.Ext.st); (focus assumption); (focus kln_le))
  | ((with_reducible apply Rv.But.st); (focus assumption); (focus kln_le); (focus kln_le))
  | ((with_reducible apply Rv.Ac.st); (focus assumption); (focus kln_le))
  | ((with_reducible apply L2.Rd.of); (focus kln_le))
  | ((with_reducible apply Rv.RivAt.ext); (focus assumption); (focus kln_le))
  | ((with_reducible apply Rv.RivAt.but); (focus assumption); (focus kln_le); (focus kln_le); (focus kln_le))
  | ((with_reducible apply Rv.RivAt.ac); (focus assumption); (focus kln_le))
  | (with_reducible apply Rv.nin_nil)
  | ((with_reducible apply Rv.BokAt.ext); (focus assumption); (focus kln_le))
  | ((with_reducible apply Rv.DicAt.ne); (focus assumption); (focus keq_hits); (focus (intro _ z; cases z)))
  | ((with_reducible apply Rv.DicAt.nf); (focus assumption); (focus keq_hits))
  | ((with_reducible apply Rv.Ext.tup); (focus assumption))
  | ((with_reducible apply Rv.Ac.tup); (focus assumption))
  | ((with_reducible apply Rv.nin_cons); (focus kln_le); (focus kln_le))
  | (with_reducible apply Rv.frs_nil)
  | ((with_reducible apply Rv.frs_cons); (focus kln_le); (focus kln_le))
  | ((with_reducible apply Ne.symm); (focus assumption))
  | ((with_reducible apply Rv.ne_nf); (focus assumption); (focus keq_hits))
  | ((with_reducible apply Rv.ne_fn); (focus assumption); (focus keq_hits))
  | ((with_reducible apply Rv.ne_k1); (focus assumption); (focus keq_hits); (focus (first | (intro z; cases z; done) | ((with_reducible apply Rv.ins_ne); intro z; cases z; done))))
  | ((with_reducible apply Rv.ne_k2); (focus assumption); (focus keq_hits); (focus (first | (intro z; cases z; done) | ((with_reducible apply Rv.ins_ne); intro z; cases z; done))))
  | ((with_reducible apply Rv.free2); (focus assumption); (focus keq_hits))
  | (with_reducible apply Rv.Ac.refl)
  | ((with_reducible apply Rv.Ac.step'); (focus assumption); (focus kln_le))
  | ((with_reducible apply Rv.Ac.but'); (focus assumption); (focus kln_le); (focus kln_le))
  | (with_reducible apply Rv.Ext.refl)
  | ((with_reducible apply Rv.Ac.ext); (focus kln_le))
  | ((with_reducible apply Rv.sz_le); first | omega | (simp only [List.length_cons, List.length_nil, List.length_map, List.length_append]; omega))
  | ((with_reducible apply Rv.sz_lt); first | omega | (simp only [List.length_cons, List.length_nil, List.length_map, List.length_append]; omega)))
local macro_rules | `(tactic| lcg_sub) => `(tactic| first
  | assumption
  | ((with_reducible apply Rv.Ext.hl); (focus assumption); (focus lcg_sub))
  | ((with_reducible apply Rv.But.hl); (focus assumption); (focus lcg_sub); (focus lcg_sub))
  | ((with_reducible apply Rv.Ac.hl); (focus assumption); (focus lcg_sub))
  | ((with_reducible apply L2.SqL.of); (focus assumption))
  | ((with_reducible apply Rv.Ext.sq); (focus assumption); (focus lcg_sub))
  | ((with_reducible apply Rv.But.sq); (focus assumption); (focus lcg_sub); (focus lcg_sub))
  | ((with_reducible apply Rv.Ac.sq); (focus assumption); (focus lcg_sub))
  | ((with_reducible apply L2.SqT.of); (focus assumption))
  | ((with_reducible apply Rv.Ext.st); (focus assumption); (focus lcg_sub))
  | ((with_reducible apply Rv.But.st); (focus assumption); (focus lcg_sub); (focus lcg_sub))
  | ((with_reducible apply Rv.Ac.st); (focus assumption); (focus lcg_sub))
  | ((with_reducible apply L2.Rd.of); (focus lcg_sub))
  | ((with_reducible apply Rv.RivAt.ext); (focus assumption); (focus lcg_sub))
  | ((with_reducible apply Rv.RivAt.but); (focus assumption); (focus lcg_sub); (focus lcg_sub); (focus lcg_sub))
  | ((with_reducible apply Rv.RivAt.ac); (focus assumption); (focus lcg_sub))
  | (with_reducible apply Rv.nin_nil)
  | ((with_reducible apply Rv.BokAt.ext); (focus assumption); (focus lcg_sub))
  | ((with_reducible apply Rv.DicAt.ne); (focus assumption); (focus kln_le); (focus (intro _ z; cases z)))
  | ((with_reducible apply Rv.DicAt.nf); (focus assumption); (focus kln_le))
  | ((with_reducible apply Rv.Ext.tup); (focus assumption))
  | ((with_reducible apply Rv.Ac.tup); (focus assumption))
  | ((with_reducible apply Rv.nin_cons); (focus lcg_sub); (focus lcg_sub))
  | (with_reducible apply Rv.frs_nil)
  | ((with_reducible apply Rv.frs_cons); (focus lcg_sub); (focus lcg_sub))
  | ((with_reducible apply Ne.symm); (focus assumption))
  | ((with_reducible apply Rv.ne_nf); (focus assumption); (focus kln_le))
  | ((with_reducible apply Rv.ne_fn); (focus assumption); (focus kln_le))
  | ((with_reducible apply Rv.ne_k1); (focus assumption); (focus kln_le); (focus (first | (intro z; cases z; done) | ((with_reducible apply Rv.ins_ne); intro z; cases z; done))))
  | ((with_reducible apply Rv.ne_k2); (focus assumption); (focus kln_le); (focus (first | (intro z; cases z; done) | ((with_reducible apply Rv.ins_ne); intro z; cases z; done))))
  | ((with_reducible apply Rv.free2); (focus assumption); (focus kln_le))
  | (with_reducible apply Rv.Ac.refl)
  | ((with_reducible apply Rv.Ac.step'); (focus assumption); (focus lcg_sub))
  | ((with_reducible apply Rv.Ac.but'); (focus assumption); (focus lcg_sub); (focus lcg_sub))
  | (with_reducible apply Rv.Ext.refl)
  | ((with_reducible apply Rv.Ac.ext); (focus lcg_sub))
  | ((with_reducible apply Rv.sz_le); first | omega | (simp only [List.length_cons, List.length_nil, List.length_map, List.length_append]; omega))
  | ((with_reducible apply Rv.sz_lt); first | omega | (simp only [List.length_cons, List.length_nil, List.length_map, List.length_append]; omega)))
local macro_rules | `(tactic| lcg_off) => `(tactic| first
  | (with_reducible apply Rv.r_seq)
  | (with_reducible apply Rv.r_asg)
  | (with_reducible apply Rv.r_op)
  | ((with_reducible apply Rv.r_var); (focus with_unfolding_all rfl))
  | (with_reducible apply Rv.r_c)
  | (with_reducible apply Rv.r_if)
  | (with_reducible apply Rv.r_test)
  | (with_reducible apply Rv.r_fld)
  | (with_reducible apply Rv.r_cons)
  | (with_reducible apply Rv.r_nil)
  | (with_reducible apply Rv.r_ret)
  | (with_reducible apply Rv.r_drop)
  | (with_reducible apply Rv.r_meth)
  | (with_reducible apply Rv.r_fn)
  | (with_reducible apply Rv.r_CB)
  | (with_reducible apply Rv.r_BM)
  | (with_reducible apply Rv.r_BM0)
  | (with_reducible apply Rv.k_bl)
  | (with_reducible apply Rv.r_not)
  | (with_reducible apply Rv.r_and)
  | (with_reducible apply Rv.r_or)
  | (with_reducible apply Rv.k_andT)
  | (with_reducible apply Rv.k_andF)
  | (with_reducible apply Rv.k_orT)
  | (with_reducible apply Rv.k_orF)
  | (with_reducible apply Rv.r_tB)
  | (with_reducible apply Rv.r_chain)
  | (with_reducible apply Rv.r_un)
  | (with_reducible apply Rv.r_tup)
  | (with_reducible apply Rv.r_lst)
  | (with_reducible apply Rv.r_andV)
  | (with_reducible apply Rv.r_orV)
  | (with_reducible apply Rv.r_notV)
  | (with_reducible apply Rv.r_ifE)
  | (with_reducible apply Rv.k_notV)
  | (with_reducible apply Rv.k_andVT)
  | (with_reducible apply Rv.k_andVF)
  | (with_reducible apply Rv.k_orVT)
  | (with_reducible apply Rv.k_orVF)
  | (with_reducible apply Rv.k_addI)
  | (with_reducible apply Rv.k_subI)
  | ((with_reducible apply Rv.k_mulI); (focus (unfold L2.CMul; omega)))
  | ((with_reducible apply Rv.k_divI); (focus (unfold L2.CDiv; omega)))
  | ((with_reducible apply Rv.k_modI); (focus omega))
  | ((with_reducible apply Rv.k_powI); (focus (unfold L2.CPow; decide)))
  | (with_reducible apply Rv.k_negI)
  | (with_reducible apply Rv.k_ltI)
  | (with_reducible apply Rv.k_leI)
  | (with_reducible apply Rv.k_gtI)
  | (with_reducible apply Rv.k_geI)
  | (with_reducible apply Rv.k_eqI)
  | (with_reducible apply Rv.k_neI)
  | (with_reducible apply Rv.k_eqS)
  | (with_reducible apply Rv.k_neS)
  | (with_reducible apply Rv.k_isNN)
  | (with_reducible apply Rv.k_isNI)
  | (with_reducible apply Rv.k_isNR)
  | (with_reducible apply Rv.k_notNN)
  | (with_reducible apply Rv.k_notNI)
  | (with_reducible apply Rv.k_notNR)
  | ((with_reducible apply Rv.k_tyL); (focus lcg_sub))
  | ((with_reducible apply Rv.k_ixT); (focus lcg_sub); (focus with_unfolding_all rfl))
  | ((with_reducible apply Rv.k_ixL); (focus lcg_sub); (focus with_unfolding_all rfl))
  | ((with_reducible apply Rv.k_lenL); (focus lcg_sub))
  | ((with_reducible apply Rv.k_lenU); (focus lcg_sub))
  | ((with_reducible apply Rv.k_tup); (focus lcg_sub))
  | ((with_reducible apply Rv.k_lst); (focus lcg_sub))
  | ((with_reducible apply Rv.k_list); (focus lcg_sub))
  | ((with_reducible apply Rv.k_append); (focus lcg_sub); (focus lcg_sub))
  | ((with_reducible apply Rv.k_cat); (focus lcg_sub); (focus lcg_sub); (focus lcg_sub))
  | ((with_reducible apply Rv.k_clear); (focus lcg_sub))
  | (with_reducible apply Rv.k_int1)
  | (with_reducible apply Rv.k_max2)
  | (with_reducible apply Rv.k_min2)
  | (with_reducible apply Rv.k_str)
  | (with_reducible apply Rv.k_part)
  | (with_reducible apply Rv.r_M1)
  | (with_reducible apply Rv.r_dget)
  | (with_reducible apply Rv.r_din)
  | (with_reducible apply Rv.r_dnotin)
  | (with_reducible apply Rv.r_dget2)
  | (with_reducible apply Rv.r_sl)
  | (with_reducible apply Rv.r_nopart)
  | (with_reducible apply Rv.r_part)
  | (with_reducible apply Rv.r_for)
  | (with_reducible apply Rv.r_lc)
  | (with_reducible apply Rv.r_yes)
  | (with_reducible apply Rv.r_iList)
  | (with_reducible apply Rv.r_iRng1)
  | (with_reducible apply Rv.r_iRng2)
  | (with_reducible apply Rv.r_iZip)
  | (with_reducible apply Rv.r_iStr)
  | (with_reducible apply Rv.r_iKeys)
  | (with_reducible apply Rv.r_lstRg)
  | ((with_reducible apply Rv.k_itl); (focus lcg_sub))
  | ((with_reducible apply Rv.k_zip); (focus lcg_sub); (focus lcg_sub))
  | ((with_reducible apply Rv.k_rng1); (focus omega))
  | ((with_reducible apply Rv.k_rng2); (focus omega))
  | (with_reducible apply Rv.k_its)
  | (with_reducible apply Rv.r_retN)
  | (with_reducible apply Rv.r_next)
  | (with_reducible apply Rv.r_setF)
  | (with_reducible apply Rv.r_dput)
  | (with_reducible apply Rv.r_setI)
  | (with_reducible apply Rv.r_raise)
  | (with_reducible apply Rv.r_wF)
  | (with_reducible apply Rv.k_ifTT)
  | (with_reducible apply Rv.k_ifFF)
  | (with_reducible apply Rv.k_ifNT)
  | (with_reducible apply Rv.k_ifNF)
  | (with_reducible apply Rv.k_andNT)
  | (with_reducible apply Rv.k_andNF)
  | (with_reducible apply Rv.k_orNT)
  | (with_reducible apply Rv.k_orNF)
  | (with_reducible apply Rv.k_andVNT)
  | (with_reducible apply Rv.k_andVNF)
  | (with_reducible apply Rv.k_orVNT)
  | (with_reducible apply Rv.k_orVNF)
  | (with_reducible apply Rv.k_isB_ii)
  | (with_reducible apply Rv.k_isB_ib)
  | (with_reducible apply Rv.k_isB_bi)
  | (with_reducible apply Rv.k_isB_bb)
  | (with_reducible apply Rv.k_isB_ni)
  | (with_reducible apply Rv.k_isB_ss)
  | ((with_reducible apply Rv.k_isB_ll); (focus lcg_sub))
  | ((with_reducible apply Rv.k_isB_tt); (focus lcg_sub))
  | (with_reducible apply Rv.r_mk)
  | (with_reducible apply Rv.r_rg1)
  | (with_reducible apply Rv.k_rg1)
  | (with_reducible apply Rv.r_dpop1)
  | (with_reducible apply Rv.k_ifNNT)
  | (with_reducible apply Rv.k_ifNNF)
  | (with_reducible apply Rv.r_dropE)
  | (with_reducible apply Rv.r_dropR)
  | (with_reducible apply Rv.r_dropN)
  | (with_reducible apply Rv.r_dropM))
namespace Rv
open PySem L2
open SX (S S_inj S_len S_cat join_S num_S S_tl lens split_S int_S)
-- number: 0 word 1 most 2 sign
def t_number (c : Cs) (E : XK) : TS :=
  (tSeq (tIfS (tNot (tTest (tChain rLeI rLeI (tC (.int 1)) (tCB rLenT (tCons (tVar 0) tNil)) (tC (.int 7))))) (tRaise (wF E) c.badText) tNext)
  (tSeq (tFor (iStr (tVar 0)) (gName 2)
  (tIfS (tTest (tOp rNotInS (tVar 2) (tC (.str "0123456789")))) (tRaise (wF E) c.badText) tNext))
  (tSeq (tIfS (tTest (tOp rGtI (tCB rIntS (tCons (tVar 0) tNil)) (tVar 1))) (tRaise (wF E) c.badText) tNext)
  (tRet (tCB rIntS (tCons (tVar 0) tNil))))))
-- is_name: 0 word 1 sign
def t_is_name (c : Cs) (E : XK) : TS :=
  (tSeq (tIfS (tNot (tTest (tChain rLeI rLeI (tC (.int 1)) (tCB rLenT (tCons (tVar 0) tNil)) (tC (.int 8))))) (tRet (tC (.bl false))) tNext)
  (tSeq (tFor (iStr (tVar 0)) (gName 1)
  (tIfS (tTest (tOp rNotInS (tVar 1) (tC (.str "abcdefghijklmnopqrstuvwxyz")))) (tRet (tC (.bl false))) tNext))
  (tRet (tC (.bl true)))))
-- river_of: 0 line 1 words 2 below 3 word 4 found
def t_river_of (c : Cs) (E : XK) : TS :=
  (tSeq (tAsg (tM1 rSplit (tVar 0) (tC (.str " "))) (gName 1))
  (tSeq (tIfS (tOr (tTest (tOp rLtI (tCB (rLenS c.K) (tCons (tVar 1) tNil)) (tC (.int 2)))) (tOr (tTest (tOp rNe (tOp (rIxL c.K) (tVar 1) (tC (.int 0))) (tC (.str "river")))) (tTest (tOp rNe (tOp (rIxL c.K) (tVar 1) (tC (.int 1))) (tC (.str "-")))))) (tRaise (wF E) c.badText) tNext)
  (tSeq (tAsg (tLst (tCons (tC .non) tNil)) (gName 2))
  (tSeq (tFor (iList c.K (tSl (rSlL c.K) (tVar 1) (tPart (tC (.int 2))) tNoPart)) (gName 3)
  (tDrop (tBM c.K "list" rAppend (tVar 2) (tCons (tFn (sp_number c) (wF E) (tCons (tVar 3) (tCons (tC (.int 1000000)) tNil))) tNil))))
  (tSeq (tAsg (tC .non) (gName 4))
  (tSeq (tTryOnly c.K c.badRiver (fun W1 => (tAsg (tMakeS c.river (sp_River_init c) W1 (tCons (tVar 2) tNil)) (gName 4))) (fun a cls d => tNever) (wF E))
  (tRet (tVar 4))))))))
-- granted: 0 book 1 line 2 words 3 point
def t_granted (c : Cs) (E : XK) : TS :=
  (tSeq (tAsg (tM1 rSplit (tVar 1) (tC (.str " "))) (gName 2))
  (tSeq (tIfS (tOr (tTest (tOp rNe (tCB (rLenS c.K) (tCons (tVar 2) tNil)) (tC (.int 7)))) (tOr (tTest (tOp rNe (tOp (rIxL c.K) (tVar 2) (tC (.int 1))) (tC (.str "at")))) (tOr (tTest (tOp rNe (tOp (rIxL c.K) (tVar 2) (tC (.int 3))) (tC (.str "wants")))) (tTest (tOp rNe (tOp (rIxL c.K) (tVar 2) (tC (.int 5))) (tC (.str "since"))))))) (tRaise (wF E) c.badText) tNext)
  (tSeq (tIfS (tOr (tNot (tB (tFn (sp_is_name c) (wF E) (tCons (tOp (rIxL c.K) (tVar 2) (tC (.int 0))) tNil)))) (tTest (tOp (rIn c.K false) (tOp (rIxL c.K) (tVar 2) (tC (.int 0))) (tMethS c.book "names" (sp_Book_names c) (wF E) (tVar 0) tNil)))) (tRaise (wF E) c.badText) tNext)
  (tSeq (tAsg (tFn (sp_number c) (wF E) (tCons (tOp (rIxL c.K) (tVar 2) (tC (.int 2))) (tCons (tOp rSubI (tMethS c.river "points" (sp_River_points c) (wF E) (tMethS c.book "river" (sp_Book_river c) (wF E) (tVar 0) tNil) tNil) (tC (.int 1))) tNil))) (gName 3))
  (tDrop (tMethS c.book "grant" (sp_Book_grant c) (wF E) (tVar 0) (tCons (tOp (rIxL c.K) (tVar 2) (tC (.int 0))) (tCons (tVar 3) (tCons (tFn (sp_number c) (wF E) (tCons (tOp (rIxL c.K) (tVar 2) (tC (.int 4))) (tCons (tC (.int 1000000)) tNil))) (tCons (tFn (sp_number c) (wF E) (tCons (tOp (rIxL c.K) (tVar 2) (tC (.int 6))) (tCons (tC (.int 9999)) tNil))) tNil))))))))))
-- read: 0 text 1 lines 2 book 3 line
def t_read (c : Cs) (E : XK) : TS :=
  (tSeq (tAsg (tM1 rSplit (tVar 0) (tC (.str "\n"))) (gName 1))
  (tSeq (tIfS (tTest (tOp rGtI (tCB (rLenS c.K) (tCons (tVar 1) tNil)) (tOp rAddI (tC (.int 40)) (tC (.int 1))))) (tRaise (wF E) c.badText) tNext)
  (tSeq (tAsg (tMakeS c.book (sp_Book_init c) (wF E) (tCons (tFn (sp_river_of c) (wF E) (tCons (tOp (rIxL c.K) (tVar 1) (tC (.int 0))) tNil)) tNil)) (gName 2))
  (tSeq (tFor (iList c.K (tSl (rSlL c.K) (tVar 1) (tPart (tC (.int 1))) tNoPart)) (gName 3)
  (tDrop (tFn (sp_granted c) (wF E) (tCons (tVar 2) (tCons (tVar 3) tNil)))))
  (tSeq (tIfS (tTest (tOp rNe (tFn (sp_shown c) (wF E) (tCons (tVar 2) tNil)) (tVar 0))) (tRaise (wF E) c.badText) tNext)
  (tRet (tVar 2)))))))
section
variable {c : Cs}
theorem pure_is_name (vs : List V) (H : Hp) (Q : VK) (E : XK) (h : sp_is_name c vs H Q E) : t_is_name c E { nx := fun _ H' => Q .non H', rt := Q } (start ["word", "sign"] vs) H := by
  obtain ⟨w, rfl, hw, k1, k2⟩ := h
  have hl : (S w).length ≤ sizeLine := by rw [S_len]; exact sz_le (by omega)
  have hSl : (S w).length = w.length := S_len w
  unfold t_is_name
  rw [letters_eq]
  repeat lcg_off
  refine k_lenT hl ?_
  rw [hSl]
  repeat lcg_off
  refine k_chainD (fun h1 => ?_) (fun h1 => ?_)
  rotate_left
  · repeat lcg_off
    exact k2 fun z => h1 (by have := z.1; omega)
  repeat lcg_off
  refine k_ifN (fun h2 => ?_) (fun h2 => ?_)
  · repeat lcg_off
    exact k2 fun z => h2 (by have := z.2.1; omega)
  repeat lcg_off
  refine k_forS (fun i σ H' => (∃ v, σ = [some (.str (S w)), v]) ∧ H' = H ∧ ∀ j x, j < i → w[j]? = some x → x ∈ lettersL) ⟨⟨_, rfl⟩, rfl, fun j _ hj => absurd hj (Nat.not_lt_zero _)⟩ ?_ ?_
  · rintro i x σ H' hx ⟨⟨v, rfl⟩, rfl, hj⟩
    have hx' : w[i]? = some x := by
      rw [← hx]
      show w[i]? = w.toArray[i]?
      simp
    show tIfS _ _ _ _ [some (.str (S w)), some (.str ⟨#[x]⟩)] _
    repeat lcg_off
    refine k_notInS ?_
    repeat lcg_off
    refine k_ifN (fun h3 => ?_) (fun h3 => ?_)
    · repeat lcg_off
      exact k2 fun z => h3 (z.2.2 x (List.mem_of_getElem? hx'))
    · repeat lcg_off
      refine ⟨⟨_, rfl⟩, rfl, fun j y hj' hy => ?_⟩
      by_cases e : j = i
      · subst e
        rw [hx'] at hy
        cases hy
        exact h3
      · exact hj j y (by omega) hy
  · rintro σ H' ⟨⟨v, rfl⟩, rfl, hj⟩
    repeat lcg_off
    refine k1 ⟨by omega, by omega, fun x hx => ?_⟩
    obtain ⟨j, hj', e⟩ := List.getElem_of_mem hx
    exact hj j x (by show j < w.toArray.size; simpa using hj') (by rw [List.getElem?_eq_getElem hj', e])
theorem pure_number (vs : List V) (H : Hp) (Q : VK) (E : XK) (h : sp_number c vs H Q E) : t_number c E { nx := fun _ H' => Q .non H', rt := Q } (start ["word", "most", "sign"] vs) H := by
  obtain ⟨w, most, rfl, hw, k1, k2⟩ := h
  have hl : (S w).length ≤ sizeLine := by rw [S_len]; exact sz_le (by omega)
  have hSl : (S w).length = w.length := S_len w
  unfold t_number
  rw [fig_eq]
  repeat lcg_off
  refine k_lenT hl ?_
  rw [hSl]
  repeat lcg_off
  refine k_chainD (fun h1 => ?_) (fun h1 => ?_)
  rotate_left
  · repeat lcg_off
    exact k2 fun z => h1 (by have := z.1; omega)
  repeat lcg_off
  refine k_ifN (fun h2 => ?_) (fun h2 => ?_)
  · repeat lcg_off
    exact k2 fun z => h2 (by have := z.2.1; omega)
  repeat lcg_off
  refine k_forS (fun i σ H' => (∃ v, σ = [some (.str (S w)), some (.int most), v]) ∧ H' = H ∧ ∀ j x, j < i → w[j]? = some x → x ∈ figL) ⟨⟨_, rfl⟩, rfl, fun j _ hj => absurd hj (Nat.not_lt_zero _)⟩ ?_ ?_
  · rintro i x σ H' hx ⟨⟨v, rfl⟩, rfl, hj⟩
    have hx' : w[i]? = some x := by
      rw [← hx]
      show w[i]? = w.toArray[i]?
      simp
    show tIfS _ _ _ _ [some (.str (S w)), some (.int most), some (.str ⟨#[x]⟩)] _
    repeat lcg_off
    refine k_notInS ?_
    repeat lcg_off
    refine k_ifN (fun h3 => ?_) (fun h3 => ?_)
    · repeat lcg_off
      exact k2 fun z => h3 (z.2.2.1 x (List.mem_of_getElem? hx'))
    · repeat lcg_off
      refine ⟨⟨_, rfl⟩, rfl, fun j y hj' hy => ?_⟩
      by_cases e : j = i
      · subst e
        rw [hx'] at hy
        cases hy
        exact h3
      · exact hj j y (by omega) hy
  · rintro σ H' ⟨⟨v, rfl⟩, rfl, hj⟩
    have hd : ∀ x ∈ w, x ∈ figL := fun x hx => by
      obtain ⟨j, hj', e⟩ := List.getElem_of_mem hx
      exact hj j x (by show j < w.toArray.size; simpa using hj') (by rw [List.getElem?_eq_getElem hj', e])
    have hi : intText? (S w) = some ((NumText.digitsVal w : Nat) : Int) := by
      refine int_S (List.all_eq_true.mpr fun x hx => ?_) (fun z => by rw [z] at h1; exact absurd h1 (by decide)) (by omega)
      have := fig_mem.mp (hd x hx)
      rw [Bool.and_eq_true]
      exact ⟨decide_eq_true this.1, decide_eq_true this.2⟩
    repeat lcg_off
    refine k_intS hi (by rw [hSl]; omega) ?_
    repeat lcg_off
    refine k_ifD (fun h4 => ?_) (fun h4 => ?_)
    · repeat lcg_off
      exact k2 fun z => by have := z.2.2.2; omega
    · repeat lcg_off
      refine k_intS hi (by rw [hSl]; omega) ?_
      repeat lcg_off
      exact k1 ⟨by omega, by omega, hd, by omega⟩
theorem pure_river_of (vs : List V) (H : Hp) (Q : VK) (E : XK) (h : sp_river_of c vs H Q E) : t_river_of c E { nx := fun _ H' => Q .non H', rt := Q } (start ["line", "words", "below", "word", "found"] vs) H := by
  obtain ⟨z, rfl, hz, k⟩ := h
  unfold t_river_of
  rw [spaceS, riverS, dashS]
  repeat lcg_off
  refine k_split (by decide) (by decide) (by omega) fun p H1 hp e1 h1 => ?_
  repeat lcg_off
  have hne : ∀ (L : List (List Nat)) (i : Nat) (x : List Nat), L[i]? = some x → atI ((L.map S).map V.str) (i : Int) = some (.str (S x)) := fun L i x h => atI_nat (by rw [List.getElem?_map, List.getElem?_map, h]; rfl)
  have hsd : ∀ x y : List Nat, decide (S x = S y) = decide (x = y) := fun x y => by
    by_cases e : x = y
    · rw [e, decide_eq_true rfl, decide_eq_true rfl]
    · rw [decide_eq_false e, decide_eq_false fun z => e (S_inj z)]
  rcases k with ⟨B, hB, rfl, k⟩ | ⟨hbad, k⟩
  · have hf := hB.few
    rw [spl_head] at h1 ⊢
    rw [show (((riverL :: [45] :: B.map TL.numL).map S).map V.str).length = B.length + 2 by simp]
    repeat lcg_off
    refine k_orD (fun z => absurd z (by omega)) fun _ => ?_
    repeat lcg_off
    refine k_ixL (SqL.of h1) (hne _ 0 riverL rfl) ?_
    repeat lcg_off
    refine k_orN (fun z => absurd rfl z) fun _ => ?_
    repeat lcg_off
    refine k_ixL (SqL.of h1) (hne _ 1 [45] rfl) ?_
    repeat lcg_off
    refine k_ifN (fun z => absurd rfl z) fun _ => ?_
    repeat lcg_off
    intro q H2 hq e2 h2
    repeat lcg_off
    refine k_slL (SqL.of (e2.g _ _ h1)) fun s H3 hs e3 h3 => ?_
    rw [show (2 : Int) = ((2 : Nat) : Int) from rfl, cutV_from (by simp)] at h3
    have h3' : H3 s = some (.lst (((B.map TL.numL).map S).map V.str)) := h3
    have h23 := e3.g _ _ h2
    have nsq : s ≠ q := ne_fn hs h2
    repeat lcg_off
    refine k_forL (fun i σ H' => (∃ v, σ = [some (.str (S (headL B))), some (.ref p), some (.ref q), v, none]) ∧ But [q] H3 H' ∧ H' q = some (.lst (.non :: (B.take i).map nV))) ⟨⟨_, rfl⟩, (Ext.refl _).but, h23⟩ (fun i σ H' _ r => SqL.of (r.2.1.g _ _ h3' (nin_cons nsq nin_nil))) ?_ ?_
    · rintro i v σ H4 hv ⟨⟨v3, rfl⟩, b4, h4⟩
      rw [List.getElem?_map, List.getElem?_map, List.getElem?_map] at hv
      cases hq' : B[i]? with
      | none =>
        rw [hq'] at hv
        cases hv
      | some n =>
        rw [hq'] at hv
        obtain rfl : V.str (S (TL.numL n)) = v := Option.some.inj hv
        have hn := bel_small hB (List.mem_of_getElem? hq')
        have hi := get_lt hq'
        show tDrop _ _ [some (.str (S (headL B))), some (.ref p), some (.ref q), some (.str (S (TL.numL n))), none] _
        repeat lcg_off
        have hnl := num_small (n := n) (by omega)
        refine ⟨TL.numL n, _, rfl, by omega, fun _ => ?_, fun z => absurd (numL_ok (by omega) (by omega)) z⟩
        rw [TL.numL_val]
        repeat lcg_off
        try refine k_append h4 (sz_lt (by rw [List.length_cons, List.length_map, List.length_take]; omega)) ?_
        intro H5 b5 h5
        repeat lcg_off
        refine ⟨⟨_, rfl⟩, b4.trans b5, ?_⟩
        rw [h5, take_snoc hq', List.map_append]
        rfl
    · rintro σ H4 ⟨⟨v3, rfl⟩, b4, h4⟩
      rw [List.length_map, List.length_map, List.length_map, List.take_length] at h4
      have e14 : Ext H H4 := ((e1.trans (e2)).ac.step e3 |>.but b4 (frs_cons (e1.free hq) frs_nil)).ext
      repeat lcg_off
      show tAsg _ _ _ _ _
      repeat lcg_off
      refine k_mkRiver (SqL.of h4) hB fun x l H5 hx hl hxl e5 A5 => ?_
      repeat lcg_off
      exact k x l H5 (e14.free hx) (e14.free hl) hxl (e14.trans e5) A5
  · have hlen : (((TL.spl [32] 0 [] z).map S).map V.str).length = (TL.spl [32] 0 [] z).length := by rw [List.length_map, List.length_map]
    rw [hlen]
    repeat lcg_off
    refine k_orD (fun _ => ?_) (fun g1 => ?_)
    · repeat lcg_off
      exact k H1 e1
    have hl2 : 2 ≤ (TL.spl [32] 0 [] z).length := by omega
    unfold badHead at hbad
    generalize TL.spl [32] 0 [] z = L at *
    have g0 : L[0]? = some L[0] := List.getElem?_eq_getElem (by omega)
    have g2 : L[1]? = some L[1] := List.getElem?_eq_getElem (by omega)
    repeat lcg_off
    refine k_ixL (SqL.of h1) (hne L 0 _ g0) ?_
    repeat lcg_off
    rw [hsd]
    refine k_orN (fun _ => ?_) (fun g3 => ?_)
    · repeat lcg_off
      exact k H1 e1
    repeat lcg_off
    refine k_ixL (SqL.of h1) (hne L 1 _ g2) ?_
    repeat lcg_off
    rw [hsd]
    refine k_ifN (fun _ => ?_) (fun g4 => ?_)
    · repeat lcg_off
      exact k H1 e1
    · rcases hbad with g | g | g
      · omega
      · exact absurd (by rw [g0, g3]) g
      · exact absurd (by rw [g2, g4]) g
theorem str_at (L : List (List Nat)) (i : Nat) (x : List Nat) (h : L[i]? = some x) : atI ((L.map S).map V.str) (i : Int) = some (.str (S x)) := atI_nat (by rw [List.getElem?_map, List.getElem?_map, h]; rfl)
theorem pure_granted (vs : List V) (H : Hp) (Q : VK) (E : XK) (h : sp_granted c vs H Q E) : t_granted c E { nx := fun _ H' => Q .non H', rt := Q } (start ["book", "line", "words", "point"] vs) H := by
  obtain ⟨b, r, l, B, d, R, w, rfl, A, ok, nok, hwp, hnin, hRl, k⟩ := h
  have hll := line_len ok
  have hf := A.riv.ok.few
  have ha0 := ok.a0
  have ha1 := ok.a1
  have hd0 := ok.d0
  have hd1 := ok.d1
  have hn8 : w.n.cps.toList.length ≤ 8 := ok.n
  have l1 := num_small (n := w.p) (by omega)
  have l2 := num_small (n := w.a.toNat) (by omega)
  have l3 := num_small (n := w.d.toNat) (by omega)
  unfold t_granted
  rw [spaceS, atS, wantsS, sinceS]
  repeat lcg_off
  refine k_split (by decide) (by decide) (by omega) fun p H1 hp e1 h1 => ?_
  rw [spl_line nok] at h1
  have q1 := SqL.of (K := c.K) h1
  have A1 := A.ext e1
  repeat lcg_off
  refine k_orN (fun z => absurd rfl z) fun _ => ?_
  repeat lcg_off
  try refine k_ixL q1 (str_at _ 1 atL rfl) ?_
  repeat lcg_off
  refine k_orN (fun z => absurd rfl z) fun _ => ?_
  repeat lcg_off
  try refine k_ixL q1 (str_at _ 3 wantsL rfl) ?_
  repeat lcg_off
  refine k_orN (fun z => absurd rfl z) fun _ => ?_
  repeat lcg_off
  try refine k_ixL q1 (str_at _ 5 sinceL rfl) ?_
  repeat lcg_off
  refine k_ifN (fun z => absurd rfl z) fun _ => ?_
  repeat lcg_off
  try refine k_ixL q1 (str_at _ 0 w.n.cps.toList rfl) ?_
  repeat lcg_off
  refine ⟨w.n.cps.toList, rfl, by omega, fun _ => ?_, fun z => absurd nok z⟩
  repeat lcg_off
  try refine k_ixL q1 (str_at _ 0 w.n.cps.toList rfl) ?_
  repeat lcg_off
  refine k_meth A1.ob.choose_spec (by lcg_src) ?_
  repeat lcg_off
  refine ⟨b, r, l, B, d, R, rfl, A1, fun nm H2 hnm e2 h2 => ?_⟩
  have h2' : H2 nm = some (.lst (((agedR R).map Rw.n).map V.str)) := by
    rw [h2, List.map_map]
    rfl
  have q2 := e2.sq q1
  have A2 := A1.ext e2
  refine k_inL (SqL.of h2') rfl (all_flat_str _) ?_
  repeat lcg_off
  rw [inV_str]
  have hnin' : S w.n.cps.toList ∉ (agedR R).map Rw.n := fun z => hnin (((agedR_perm R).map Rw.n).mem_iff.mp z)
  refine k_ifD (fun z => absurd z hnin') fun _ => ?_
  repeat lcg_off
  try refine k_ixL q2 (str_at _ 2 (TL.numL w.p) rfl) ?_
  repeat lcg_off
  refine k_meth A2.ob.choose_spec (by lcg_src) ?_
  repeat lcg_off
  refine ⟨b, r, l, B, d, R, rfl, A2, ?_⟩
  refine k_meth A2.riv.ob.choose_spec (by lcg_src) ?_
  repeat lcg_off
  refine ⟨r, l, B, rfl, A2.riv, ?_⟩
  repeat lcg_off
  refine ⟨TL.numL w.p, _, rfl, by omega, fun _ => ?_, fun z => absurd (numL_ok (by omega) (by omega)) z⟩
  rw [TL.numL_val]
  repeat lcg_off
  refine k_meth A2.ob.choose_spec (by lcg_src) ?_
  repeat lcg_off
  try refine k_ixL q2 (str_at _ 0 w.n.cps.toList rfl) ?_
  repeat lcg_off
  try refine k_ixL q2 (str_at _ 4 (TL.numL w.a.toNat) rfl) ?_
  repeat lcg_off
  refine ⟨TL.numL w.a.toNat, _, rfl, by omega, fun _ => ?_, fun z => absurd (numL_ok (by omega) (by omega)) z⟩
  rw [TL.numL_val, Int.toNat_of_nonneg ha0]
  repeat lcg_off
  try refine k_ixL q2 (str_at _ 6 (TL.numL w.d.toNat) rfl) ?_
  repeat lcg_off
  refine ⟨TL.numL w.d.toNat, _, rfl, by omega, fun _ => ?_, fun z => absurd (numL_ok (by omega) (by omega)) z⟩
  rw [TL.numL_val, Int.toNat_of_nonneg hd0]
  repeat lcg_off
  refine ⟨b, r, l, B, d, R, w.n, (w.p : Int), w.a, w.d, rfl, A2, by omega, fun z => absurd z hnin, fun _ z => absurd (by omega) z, fun _ p' ep hp' H3 b3 t3 A3 => ?_⟩
  obtain rfl : p' = w.p := by omega
  repeat lcg_off
  exact k H3 ((e1.trans e2).but.trans b3) ((e1.trans e2).tup.trans t3) A3
theorem text_aged {B : List Nat} {R : List Rw} (nd : (R.map Rw.n).Nodup) : textL B (agedR R) = textL B R := by
  unfold textL
  rw [agedR_perm_eq (agedR_perm R) (agedR_nodup nd)]
theorem pure_read (vs : List V) (H : Hp) (Q : VK) (E : XK) (h : sp_read c vs H Q E) : t_read c E { nx := fun _ H' => Q .non H', rt := Q } (start ["text", "lines", "book", "line"] vs) H := by
  unfold t_read
  rw [lineS]
  obtain ⟨z, rfl, h⟩ := h
  rcases h with ⟨B, R, rfl, hB, nd, hR, hRl, k⟩ | ⟨hz, hz10, hbad, k⟩
  · have htl := text_len hB (fun w hw => (hR w hw).1) (show R.length ≤ 1000 by omega)
    have hal := agedR_len R
    have hhl := head_len hB
    repeat lcg_off
    refine k_split (by decide) (by decide) (by omega) fun p H1 hp e1 h1 => ?_
    rw [spl_text fun w hw => (hR w hw).2.1] at h1
    repeat lcg_off
    rw [show (((headL B :: (agedR R).map lineL).map S).map V.str).length = R.length + 1 by simp [hal]]
    repeat lcg_off
    refine k_ifD (fun z => absurd z (by omega)) fun _ => ?_
    repeat lcg_off
    refine k_ixL (SqL.of h1) (str_at _ 0 (headL B) rfl) ?_
    repeat lcg_off
    refine ⟨headL B, rfl, by omega, .inl ⟨B, hB, rfl, fun r l H2 hr hl hrl e2 A2 => ?_⟩⟩
    repeat lcg_off
    refine k_mkBook A2 fun x d H3 hx hd hxd e3 A3 => ?_
    have e13 := (e1.trans e2).trans e3
    repeat lcg_off
    refine k_slL (SqL.of (e3.g _ _ (e2.g _ _ h1))) fun s H4 hs e4 h4 => ?_
    rw [show (1 : Int) = ((1 : Nat) : Int) from rfl, cutV_from (by simp)] at h4
    have h4' : H4 s = some (.lst ((((agedR R).map lineL).map S).map V.str)) := h4
    have A4 := A3.ext e4
    have hd4 : H d = none := (e1.trans e2).free hd
    repeat lcg_off
    refine k_forL (fun i σ H' => (∃ v, σ = [some (.str (S (textL B R))), some (.ref p), some (.ref x), v]) ∧ But [d] H4 H' ∧ TupE H4 H' ∧ BokAt c H' x r l B d ((agedR R).take i)) ⟨⟨_, rfl⟩, (Ext.refl _).but, TupE.refl _, A4⟩ (fun i σ H' _ q => SqL.of (q.2.1.g _ _ h4' (nin_cons (A4.dic.ne h4' fun _ z => by cases z) nin_nil))) ?_ ?_
    · rintro i v σ H5 hv ⟨⟨v3, rfl⟩, b5, t5, A5⟩
      rw [List.getElem?_map, List.getElem?_map, List.getElem?_map] at hv
      cases hw : (agedR R)[i]? with
      | none =>
        rw [hw] at hv
        cases hv
      | some w =>
        rw [hw] at hv
        obtain rfl : V.str (S (lineL w)) = v := Option.some.inj hv
        obtain ⟨ok, nok, hwp⟩ := hR w (agedR_mem.mp (List.mem_of_getElem? hw))
        show tDrop _ _ [some (.str (S (textL B R))), some (.ref p), some (.ref x), some (.str (S (lineL w)))] _
        repeat lcg_off
        refine ⟨x, r, l, B, d, _, w, rfl, A5, ok, nok, hwp, nodup_fresh (agedR_nodup nd) hw, by rw [List.length_take]; omega, fun H6 b6 t6 A6 => ?_⟩
        repeat lcg_off
        refine ⟨⟨_, rfl⟩, b5.trans b6, t5.trans t6, ?_⟩
        rw [take_snoc hw]
        exact A6
    · rintro σ H5 ⟨⟨v3, rfl⟩, b5, t5, A5⟩
      rw [List.length_map, List.length_map, List.length_map, List.take_length] at A5
      repeat lcg_off
      refine ⟨x, r, l, B, d, _, rfl, A5, fun w hw => (hR w (agedR_mem.mp hw)).1, fun H6 e6 => ?_⟩
      rw [text_aged nd]
      repeat lcg_off
      refine k_ifN (fun z => absurd rfl z) fun _ => ?_
      repeat lcg_off
      have e15 : Ext H H5 := ((e13.trans e4).ac.but b5 (frs_cons hd4 frs_nil)).ext
      exact k x r l d H6 ((e1.trans e2).free hx) (e1.free hr) (e1.free hl) hd4 (e15.trans e6) (A5.ext e6)
  · repeat lcg_off
    refine k_split (by decide) (by decide) (by omega) fun p H1 hp e1 h1 => ?_
    have h10 : 10 ∉ z := fun h => hz10 10 h rfl
    rw [TL.spl_last1 h10] at h1
    have h1' : H1 p = some (.lst (([z].map S).map V.str)) := h1
    repeat lcg_off
    refine k_ifD (fun g => absurd g (by simp)) fun _ => ?_
    repeat lcg_off
    try refine k_ixL (SqL.of h1') (str_at _ 0 z rfl) ?_
    try repeat lcg_off
    exact ⟨z, rfl, by omega, .inr ⟨hbad, fun H2 e2 => k H2 (e1.trans e2)⟩⟩
end
end Rv

end
namespace Rv
open PySem PySem.Spec PyProof.Rows L2 L2H
/-! ### an except suite that raises: the try's body calls a def whose errors have no context -/
structure MkInN (P : Program) (w : World) (K : PySem.W.Frag) (mg : Str → Option Value) (base : Heap) (k : Nat) (x : Str) (C : Addr) (ps : List Str) (sp : Sp) : Prop where
  ex : ∃ (f : Addr) (fd : FuncData), FnOk P w K mg base (L2N.CX P w) k f fd ps sp ∧ Mk K C f ∧ mg x = some (.ref C) ∧ Binds K fd ps []
section
variable {P : Program} {w : World} {K : PySem.W.Frag} {mg : Str → Option Value} {base : Heap}
theorem mkN_by {x qual : Str} {C : Addr} {st : Stmt} {f : Addr} {fd : FuncData} {N ps : List Str} {k : Nat} {sp : Sp} {tt : XK → TS} (F : Fun K "__init__" qual st f fd) (hM : Mk K C f) (hm : mg x = some (.ref C)) (hb : Binds K fd ps []) (S : FnScope N ps (defScope st))
    (len : ∀ vs H Q E, sp vs H Q E → vs.length = ps.length) (pure : ∀ vs H Q E, sp vs H Q E → tt E { nx := fun _ H' => Q .non H', rt := Q } (start N vs) H)
    (der : ∀ (cdv : Value) (A : Around) (outer : List Env) (s : Shared) (H : Hp) (E : XK), Room k (A.deeper (envOfC qual (defScope st) s.heap.objs.size f cdv)) → L2N.Takes (cxOf (L2N.CX P w) P w K mg base N qual (defScope st) f cdv A outer s H E) (wF E) → PassesOwn (model P w) (cxOf (L2N.CX P w) P w K mg base N qual (defScope st) f cdv A outer s H E).A (cxOf (L2N.CX P w) P w K mg base N qual (defScope st) f cdv A outer s H E).env (cxOf (L2N.CX P w) P w K mg base N qual (defScope st) f cdv A outer s H E).xe → PSs (cxOf (L2N.CX P w) P w K mg base N qual (defScope st) f cdv A outer s H E) (defBody st) (tt E)) :
    MkInN P w K mg base (k + 1) x C ps sp := by
  obtain ⟨oc, od, kV, doc, pm, an, cdv, ct, osl, rfl, lk, hcd⟩ := F.ex
  exact ⟨⟨f, _, fn_of lk hcd S len fun A outer s H vs Q E hr h => ⟨tt E, der cdv A outer s H E hr (L2N.takes_of rfl rfl rfl rfl) (passes_of rfl), pure vs H Q E h⟩, hM, hm, hb⟩⟩
end
section
variable {X : Cx} {k : Nat} {x : Str} {C : Addr} {ps : List Str} {sp : Sp} {W : WX} {p pos : Pos} {e : Expr} {es : List Expr} {t : TA}
theorem pe_mkN (G : MkInN X.prog X.w X.K X.mg X.base k x C ps sp) (hr : Room (k + 1) X.A) (tk : L2N.Takes X W) (hg : Gl X x) (ha : PA X (e :: es) t) (hdb : (x == ("__debug__" : Str)) = false := by decide)
    (he : starEach (e :: es) X.env = (false, eval e X.env) :: starEach es X.env := by rfl) (hpl : (backTo pos (starEach es X.env)).any (·.1) = false := by rfl) : PE X (.Call (.Name x p) (e :: es) [] pos) (tMakeS C sp W t) := by
  obtain ⟨f, fd, F, M, hm, hb⟩ := G.ex
  refine ⟨fun pins s σ H Q I h => ?_⟩
  refine wpAny_Call_Name_kw (ld_glob I hg hm ?_ hdb)
  refine PySem.W.callWith_K (h₀ := X.base) I.ok.mod.kin M.kp (thn (ha.run pos pins s σ H _ I h) fun us s1 ⟨vs, H1, I1, r, q⟩ => ⟨I1.kIn, ?_⟩) he hpl
  have hq := q (s1.heap.objs.size + 1) s1.heap.objs.size (I1.hok.fresh (Nat.le_succ _)) (I1.hok.fresh (Nat.le_refl _)) (Nat.ne_of_lt (Nat.lt_succ_self _))
  have I2 := Inv.made (C := C) I1
  have r2 : Vals (V.ref (s1.heap.objs.size + 1) :: vs) (Value.ref (s1.heap.objs.size + 1) :: us) := .cons rfl r
  have hl : (Value.ref (s1.heap.objs.size + 1) :: us).length = ps.length := by
    have e := r2.length
    rw [F.len _ _ _ _ hq] at e
    exact e.symm
  have b := hb _ (Value.ref (s1.heap.objs.size + 1) :: us) I2.kIn (by rw [List.append_nil]; exact hl)
  rw [List.append_nil] at b
  refine wpAny_call (make_map (f := f) I1.kIn M.makes M.init (beq_iff_eq.mp M.fn) (codeAny_mono (F.run _ X.stack _ _ ⟨Value.ref (s1.heap.objs.size + 1) :: us, []⟩ (Value.ref (s1.heap.objs.size + 1) :: us) _ _ (WE W σ) (hr.make C us [])
    (I2.env0.make C us []) b r2 hq) fun r s' hq' => ?_))
  cases r with
  | error e => exact L2N.passAt tk σ pins _ _ e s' I2 hq'
  | ok fl =>
    cases fl with
    | ret u =>
      obtain ⟨v, H', I3, rv, ev, q3⟩ := I2.after hq'
      subst ev
      exact ⟨rv, ⟨V.ref (s1.heap.objs.size + 1), H', I3, rfl, q3⟩⟩
    | next => exact False.elim hq'
    | brk => exact False.elim hq'
    | cont => exact False.elim hq'
theorem ps_rzN {mm : Str} {j : Nat} {p2 pos2 : Pos} (hc : X.calm = true) (G : ErIn X.K X.mg x C) (tk : L2N.Takes X W) (hg : Gl X x) (hdb : (x == ("__debug__" : Str)) = false := by decide) :
    PS X (.Raise (some (.Call (.Name x p) [.Constant (.str mm) j p2] [] pos)) none pos2) (tRaise W C) :=
  L2N.ps_raise hc tk (L2N.pmk_own PySem.F.excBase_ValueError G.x G.g G.k (raises_own G.b G.t) hg hdb)
theorem ps_rzH {mm : Str} {j : Nat} {p2 pos2 : Pos} (hc : HotC X) (G : ErIn X.K X.mg x C) (tk : L2.Takes X W) (hg : Gl X x) (hdb : (x == ("__debug__" : Str)) = false := by decide) :
    PS X (.Raise (some (.Call (.Name x p) [.Constant (.str mm) j p2] [] pos)) none pos2) (tRaise W C) :=
  ps_raiseH hc tk (L2N.pmk_own PySem.F.excBase_ValueError G.x G.g G.k (raises_own G.b G.t) hg hdb)
end
end Rv

section
namespace Rv
open PySem L2
open SX (S S_inj S_len S_cat join_S num_S S_tl lens split_S int_S)
/-! ### parts of a text and the text -/
theorem pre1 (s c : Nat) (r : List Nat) : TL.pre [s] (c :: r) = decide (c = s) := by
  unfold TL.pre
  show (([c] : List Nat) == [s]) = _
  by_cases h : c = s
  · subst h
    simp
  · simp [h]
theorem spl1_nil (s : Nat) (acc : List Nat) : TL.spl [s] 0 acc [] = [acc] := TL.spl_nil _ _ _
theorem spl1_hit (s : Nat) (acc r : List Nat) : TL.spl [s] 0 acc (s :: r) = acc :: TL.spl [s] 0 [] r := TL.spl_hit (by rw [pre1]; exact decide_eq_true rfl)
theorem spl1_miss {s c : Nat} (h : c ≠ s) (acc r : List Nat) : TL.spl [s] 0 acc (c :: r) = TL.spl [s] 0 (acc ++ [c]) r := TL.spl_miss (by rw [pre1]; exact decide_eq_false h)
theorem spl1_ne (s : Nat) : ∀ (z acc : List Nat), TL.spl [s] 0 acc z ≠ []
  | [], acc => by rw [spl1_nil]; simp
  | c :: r, acc => by
    by_cases h : c = s
    · subst h
      rw [spl1_hit]
      simp
    · rw [spl1_miss h]
      exact spl1_ne s r _
theorem spl1_join (s : Nat) : ∀ (z acc : List Nat), TL.joinL [s] (TL.spl [s] 0 acc z) = acc ++ z
  | [], acc => by
    rw [spl1_nil]
    show acc = acc ++ []
    rw [List.append_nil]
  | c :: r, acc => by
    by_cases h : c = s
    · subst h
      rw [spl1_hit]
      have ih := spl1_join c r []
      have hne := spl1_ne c r []
      cases hL : TL.spl [c] 0 [] r with
      | nil => exact absurd hL hne
      | cons x L =>
        rw [hL] at ih
        show acc ++ ([c] ++ TL.joinL [c] (x :: L)) = _
        rw [ih]
        rfl
    · rw [spl1_miss h, spl1_join s r, List.append_assoc]
      rfl
theorem spl1_len (s : Nat) : ∀ (z acc : List Nat), (TL.spl [s] 0 acc z).length ≤ z.length + 1
  | [], acc => by rw [spl1_nil]; exact Nat.le_refl _
  | c :: r, acc => by
    by_cases h : c = s
    · subst h
      rw [spl1_hit]
      have := spl1_len c r []
      rw [List.length_cons, List.length_cons]
      omega
    · rw [spl1_miss h]
      have := spl1_len s r (acc ++ [c])
      rw [List.length_cons]
      omega
theorem spl1_mem (s : Nat) : ∀ (z acc : List Nat) (p : List Nat), p ∈ TL.spl [s] 0 acc z → p.length ≤ acc.length + z.length ∧ ∀ x ∈ p, x ∈ acc ∨ x ∈ z
  | [], acc, p, h => by
    rw [spl1_nil] at h
    rw [List.mem_singleton.mp h]
    exact ⟨Nat.le_add_right _ _, fun x hx => .inl hx⟩
  | c :: r, acc, p, h => by
    by_cases hc : c = s
    · subst hc
      rw [spl1_hit] at h
      rcases List.mem_cons.mp h with e | h
      · rw [e]
        exact ⟨Nat.le_add_right _ _, fun x hx => .inl hx⟩
      · obtain ⟨h1, h2⟩ := spl1_mem c r [] p h
        rw [List.length_cons]
        refine ⟨by have : ([] : List Nat).length = 0 := rfl; omega, fun x hx => ?_⟩
        rcases h2 x hx with z | z
        · cases z
        · exact .inr (List.mem_cons_of_mem _ z)
    · rw [spl1_miss hc] at h
      obtain ⟨h1, h2⟩ := spl1_mem s r _ p h
      rw [List.length_append] at h1
      rw [List.length_cons]
      refine ⟨by have : ([c] : List Nat).length = 1 := rfl; omega, fun x hx => ?_⟩
      rcases h2 x hx with z | z
      · rcases List.mem_append.mp z with z | z
        · exact .inl z
        · rw [List.mem_singleton.mp z]
          exact .inr List.mem_cons_self
      · exact .inr (List.mem_cons_of_mem _ z)
/-! ### any text read -/
def Good (z : List Nat) : Prop := ∃ B R, z = textL B R ∧ Riv B ∧ (R.map Rw.n).Nodup ∧ (∀ w ∈ R, okW w ∧ nameOk w.n.cps.toList ∧ w.p ≤ B.length) ∧ R.length ≤ 40
def sp_River_initN := sp_River_init
def sp_river_ofX (c : Cs) : Sp := fun vs H Q E => ∃ z, vs = [.str (S z)] ∧ ((∃ B, Riv B ∧ z = headL B ∧ ∀ x l H', H x = none → H l = none → x ≠ l → Ext H H' → RivAt c H' x l B → Q (.ref x) H') ∨
  (z.length ≤ 900 ∧ (∀ B x l H', Riv B → H x = none → H l = none → x ≠ l → Ext H H' → RivAt c H' x l B → Q (.ref x) H') ∧ ∀ H', Ext H H' → E (.ref c.badText) none H'))
def sp_grantedX (c : Cs) : Sp := fun vs H Q E => ∃ b r l B d R z, vs = [.ref b, .str (S z)] ∧ BokAt c H b r l B d R ∧ R.length < 1000 ∧
  ((∃ w, z = lineL w ∧ okW w ∧ nameOk w.n.cps.toList ∧ w.p ≤ B.length ∧ w.n ∉ R.map Rw.n ∧ ∀ H', But [d] H H' → TupE H H' → BokAt c H' b r l B d (R ++ [w]) → Q .non H') ∨
  (z.length ≤ 900 ∧ (∀ w H', okW w → nameOk w.n.cps.toList → w.p ≤ B.length → w.n ∉ R.map Rw.n → But [d] H H' → TupE H H' → BokAt c H' b r l B d (R ++ [w]) → Q .non H') ∧ ∀ H', Ext H H' → E (.ref c.badText) none H'))
def sp_readX (c : Cs) : Sp := fun vs H Q E => ∃ z, vs = [.str (S z)] ∧ ((∃ B R, z = textL B R ∧ Riv B ∧ (R.map Rw.n).Nodup ∧ (∀ w ∈ R, okW w ∧ nameOk w.n.cps.toList ∧ w.p ≤ B.length) ∧ R.length ≤ 40 ∧
    ∀ x r l d H', H x = none → H r = none → H l = none → H d = none → Ext H H' → BokAt c H' x r l B d (agedR R) → Q (.ref x) H') ∨
  (z.length ≤ 900 ∧ ¬ Good z ∧ ∀ H', Ext H H' → E (.ref c.badText) none H'))
theorem rows_inj {X Y : List Nat} (h : (X.map fun (n : Nat) => some (n : Int)) = (Y.map fun (n : Nat) => some (n : Int))) : X = Y := by
  induction X generalizing Y with
  | nil => cases Y with
    | nil => rfl
    | cons y Y => cases h
  | cons x X ih => cases Y with
    | nil => cases h
    | cons y Y =>
      have hx : (x : Int) = (y : Int) := Option.some.inj (List.cons.inj h).1
      have : x = y := by omega
      rw [this, ih (List.cons.inj h).2]
end Rv
local macro_rules | `(tactic| lcg_src) => `(tactic| first
  | assumption
  | (with_reducible exact Rv.lk_here)
  | (refine (Rv.lk_past (by decide +kernel)).trans ?_; lcg_src)
  | (with_unfolding_all exact rfl))
local macro_rules | `(tactic| keq_hits) => `(tactic| first
  | assumption
  | ((with_reducible apply Rv.Ext.hl); (focus assumption); (focus keq_hits))
  | ((with_reducible apply Rv.But.hl); (focus assumption); (focus keq_hits); (focus keq_hits))
  | ((with_reducible apply Rv.Ac.hl); (focus assumption); (focus keq_hits))
  | ((with_reducible apply L2.SqL.of); (focus assumption))
  | ((with_reducible apply Rv.Ext.sq); (focus assumption); (focus keq_hits))
  | ((with_reducible apply Rv.But.sq); (focus assumption); (focus keq_hits); (focus keq_hits))
  | ((with_reducible apply Rv.Ac.sq); (focus assumption); (focus keq_hits))
  | ((with_reducible apply L2.SqT.of); (focus assumption))
  | ((with_reducible apply Rv.Ext.st); (focus assumption); (focus keq_hits))
  | ((with_reducible apply Rv.But.st); (focus assumption); (focus keq_hits); (focus keq_hits))
  | ((with_reducible apply Rv.Ac.st); (focus assumption); (focus keq_hits))
  | ((with_reducible apply L2.Rd.of); (focus keq_hits))
  | ((with_reducible apply Rv.RivAt.ext); (focus assumption); (focus keq_hits))
  | ((with_reducible apply Rv.RivAt.but); (focus assumption); (focus keq_hits); (focus keq_hits); (focus keq_hits))
  | ((with_reducible apply Rv.RivAt.ac); (focus assumption); (focus keq_hits))
  | (with_reducible apply Rv.nin_nil)
  | ((with_reducible apply Rv.BokAt.ext); (focus assumption); (focus keq_hits))
  | ((with_reducible apply Rv.DicAt.ne); (focus assumption); (focus assumption); (focus (intro _ z; cases z)))
  | ((with_reducible apply Rv.DicAt.nf); (focus assumption); (focus assumption))
  | ((with_reducible apply Rv.Ext.tup); (focus assumption))
  | ((with_reducible apply Rv.Ac.tup); (focus assumption))
  | ((with_reducible apply Rv.nin_cons); (focus keq_hits); (focus keq_hits))
  | (with_reducible apply Rv.frs_nil)
  | ((with_reducible apply Rv.frs_cons); (focus keq_hits); (focus keq_hits))
  | ((with_reducible apply Ne.symm); (focus assumption))
  | ((with_reducible apply Rv.ne_nf); (focus assumption); (focus assumption))
  | ((with_reducible apply Rv.ne_fn); (focus assumption); (focus assumption))
  | ((with_reducible apply Rv.ne_k1); (focus assumption); (focus assumption); (focus (first | (intro z; cases z; done) | ((with_reducible apply Rv.ins_ne); intro z; cases z; done))))
  | ((with_reducible apply Rv.ne_k2); (focus assumption); (focus assumption); (focus (first | (intro z; cases z; done) | ((with_reducible apply Rv.ins_ne); intro z; cases z; done))))
  | ((with_reducible apply Rv.free2); (focus assumption); (focus assumption))
  | (with_reducible apply Rv.Ac.refl)
  | ((with_reducible apply Rv.Ac.step'); (focus assumption); (focus keq_hits))
  | ((with_reducible apply Rv.Ac.but'); (focus assumption); (focus keq_hits); (focus keq_hits))
  | (with_reducible apply Rv.Ext.refl)
  | ((with_reducible apply Rv.Ac.ext); (focus keq_hits))
  | ((with_reducible apply Rv.sz_le); first | omega | (simp only [List.length_cons, List.length_nil, List.length_map, List.length_append]; omega))
  | ((with_reducible apply Rv.sz_lt); first | omega | (simp only [List.length_cons, List.length_nil, List.length_map, List.length_append]; omega)))
local macro_rules | `(tactic| kln_le) => `(tactic| first
  | assumption
  | ((with_reducible apply Rv.Ext.hl); (focus assumption); (focus kln_le))
  | ((with_reducible apply Rv.But.hl); (focus assumption); (focus kln_le); (focus kln_le))
  | ((with_reducible apply Rv.Ac.hl); (focus assumption); (focus kln_le))
  | ((with_reducible apply L2.SqL.of); (focus assumption))
  | ((with_reducible apply Rv.Ext.sq); (focus assumption); (focus kln_le))
  | ((with_reducible apply Rv.But.sq); (focus assumption); (focus kln_le); (focus kln_le))
  | ((with_reducible apply Rv.Ac.sq); (focus assumption); (focus kln_le))
  | ((with_reducible apply L2.SqT.of); (focus assumption))
  | ((with_reducible apply Rv.Ext.st); (focus assumption); (focus kln_le))
  | ((with_reducible apply Rv.But.st); (focus assumption); (focus kln_le); (focus kln_le))
  | ((with_reducible apply Rv.Ac.st); (focus assumption); (focus kln_le))
  | ((with_reducible apply L2.Rd.of); (focus kln_le))
  | ((with_reducible apply Rv.RivAt.ext); (focus assumption); (focus kln_le))
  | ((with_reducible apply Rv.RivAt.but); (focus assumption); (focus kln_le); (focus kln_le); (focus kln_le))
  | ((with_reducible apply Rv.RivAt.ac); (focus assumption); (focus kln_le))
  | (with_reducible apply Rv.nin_nil)
  | ((with_reducible apply Rv.BokAt.ext); (focus assumption); (focus kln_le))
  | ((with_reducible apply Rv.DicAt.ne); (focus assumption); (focus keq_hits); (focus (intro _ z; cases z)))
  | ((with_reducible apply Rv.DicAt.nf); (focus assumption); (focus keq_hits))
  | ((with_reducible apply Rv.Ext.tup); (focus assumption))
  | ((with_reducible apply Rv.Ac.tup); (focus assumption))
  | ((with_reducible apply Rv.nin_cons); (focus kln_le); (focus kln_le))
  | (with_reducible apply Rv.frs_nil)
  | ((with_reducible apply Rv.frs_cons); (focus kln_le); (focus kln_le))
  | ((with_reducible apply Ne.symm); (focus assumption))
  | ((with_reducible apply Rv.ne_nf); (focus assumption); (focus keq_hits))
  | ((with_reducible apply Rv.ne_fn); (focus assumption); (focus keq_hits))
  | ((with_reducible apply Rv.ne_k1); (focus assumption); (focus keq_hits); (focus (first | (intro z; cases z; done) | ((with_reducible apply Rv.ins_ne); intro z; cases z; done))))
  | ((with_reducible apply Rv.ne_k2); (focus assumption); (focus keq_hits); (focus (first | (intro z; cases z; done) | ((with_reducible apply Rv.ins_ne); intro z; cases z; done))))
  | ((with_reducible apply Rv.free2); (focus assumption); (focus keq_hits))
  | (with_reducible apply Rv.Ac.refl)
  | ((with_reducible apply Rv.Ac.step'); (focus assumption); (focus kln_le))
  | ((with_reducible apply Rv.Ac.but'); (focus assumption); (focus kln_le); (focus kln_le))
  | (with_reducible apply Rv.Ext.refl)
  | ((with_reducible apply Rv.Ac.ext); (focus kln_le))
  | ((with_reducible apply Rv.sz_le); first | omega | (simp only [List.length_cons, List.length_nil, List.length_map, List.length_append]; omega))
  | ((with_reducible apply Rv.sz_lt); first | omega | (simp only [List.length_cons, List.length_nil, List.length_map, List.length_append]; omega)))
local macro_rules | `(tactic| lcg_sub) => `(tactic| first
  | assumption
  | ((with_reducible apply Rv.Ext.hl); (focus assumption); (focus lcg_sub))
  | ((with_reducible apply Rv.But.hl); (focus assumption); (focus lcg_sub); (focus lcg_sub))
  | ((with_reducible apply Rv.Ac.hl); (focus assumption); (focus lcg_sub))
  | ((with_reducible apply L2.SqL.of); (focus assumption))
  | ((with_reducible apply Rv.Ext.sq); (focus assumption); (focus lcg_sub))
  | ((with_reducible apply Rv.But.sq); (focus assumption); (focus lcg_sub); (focus lcg_sub))
  | ((with_reducible apply Rv.Ac.sq); (focus assumption); (focus lcg_sub))
  | ((with_reducible apply L2.SqT.of); (focus assumption))
  | ((with_reducible apply Rv.Ext.st); (focus assumption); (focus lcg_sub))
  | ((with_reducible apply Rv.But.st); (focus assumption); (focus lcg_sub); (focus lcg_sub))
  | ((with_reducible apply Rv.Ac.st); (focus assumption); (focus lcg_sub))
  | ((with_reducible apply L2.Rd.of); (focus lcg_sub))
  | ((with_reducible apply Rv.RivAt.ext); (focus assumption); (focus lcg_sub))
  | ((with_reducible apply Rv.RivAt.but); (focus assumption); (focus lcg_sub); (focus lcg_sub); (focus lcg_sub))
  | ((with_reducible apply Rv.RivAt.ac); (focus assumption); (focus lcg_sub))
  | (with_reducible apply Rv.nin_nil)
  | ((with_reducible apply Rv.BokAt.ext); (focus assumption); (focus lcg_sub))
  | ((with_reducible apply Rv.DicAt.ne); (focus assumption); (focus kln_le); (focus (intro _ z; cases z)))
  | ((with_reducible apply Rv.DicAt.nf); (focus assumption); (focus kln_le))
  | ((with_reducible apply Rv.Ext.tup); (focus assumption))
  | ((with_reducible apply Rv.Ac.tup); (focus assumption))
  | ((with_reducible apply Rv.nin_cons); (focus lcg_sub); (focus lcg_sub))
  | (with_reducible apply Rv.frs_nil)
  | ((with_reducible apply Rv.frs_cons); (focus lcg_sub); (focus lcg_sub))
  | ((with_reducible apply Ne.symm); (focus assumption))
  | ((with_reducible apply Rv.ne_nf); (focus assumption); (focus kln_le))
  | ((with_reducible apply Rv.ne_fn); (focus assumption); (focus kln_le))
  | ((with_reducible apply Rv.ne_k1); (focus assumption); (focus kln_le); (focus (first | (intro z; cases z; done) | ((with_reducible apply Rv.ins_ne); intro z; cases z; done))))
  | ((with_reducible apply Rv.ne_k2); (focus assumption); (focus kln_le); (focus (first | (intro z; cases z; done) | ((with_reducible apply Rv.ins_ne); intro z; cases z; done))))
  | ((with_reducible apply Rv.free2); (focus assumption); (focus kln_le))
  | (with_reducible apply Rv.Ac.refl)
  | ((with_reducible apply Rv.Ac.step'); (focus assumption); (focus lcg_sub))
  | ((with_reducible apply Rv.Ac.but'); (focus assumption); (focus lcg_sub); (focus lcg_sub))
  | (with_reducible apply Rv.Ext.refl)
  | ((with_reducible apply Rv.Ac.ext); (focus lcg_sub))
  | ((with_reducible apply Rv.sz_le); first | omega | (simp only [List.length_cons, List.length_nil, List.length_map, List.length_append]; omega))
  | ((with_reducible apply Rv.sz_lt); first | omega | (simp only [List.length_cons, List.length_nil, List.length_map, List.length_append]; omega)))
local macro_rules | `(tactic| lcg_off) => `(tactic| first
  | (with_reducible apply Rv.r_seq)
  | (with_reducible apply Rv.r_asg)
  | (with_reducible apply Rv.r_op)
  | ((with_reducible apply Rv.r_var); (focus with_unfolding_all rfl))
  | (with_reducible apply Rv.r_c)
  | (with_reducible apply Rv.r_if)
  | (with_reducible apply Rv.r_test)
  | (with_reducible apply Rv.r_fld)
  | (with_reducible apply Rv.r_cons)
  | (with_reducible apply Rv.r_nil)
  | (with_reducible apply Rv.r_ret)
  | (with_reducible apply Rv.r_drop)
  | (with_reducible apply Rv.r_meth)
  | (with_reducible apply Rv.r_fn)
  | (with_reducible apply Rv.r_CB)
  | (with_reducible apply Rv.r_BM)
  | (with_reducible apply Rv.r_BM0)
  | (with_reducible apply Rv.k_bl)
  | (with_reducible apply Rv.r_not)
  | (with_reducible apply Rv.r_and)
  | (with_reducible apply Rv.r_or)
  | (with_reducible apply Rv.k_andT)
  | (with_reducible apply Rv.k_andF)
  | (with_reducible apply Rv.k_orT)
  | (with_reducible apply Rv.k_orF)
  | (with_reducible apply Rv.r_tB)
  | (with_reducible apply Rv.r_chain)
  | (with_reducible apply Rv.r_un)
  | (with_reducible apply Rv.r_tup)
  | (with_reducible apply Rv.r_lst)
  | (with_reducible apply Rv.r_andV)
  | (with_reducible apply Rv.r_orV)
  | (with_reducible apply Rv.r_notV)
  | (with_reducible apply Rv.r_ifE)
  | (with_reducible apply Rv.k_notV)
  | (with_reducible apply Rv.k_andVT)
  | (with_reducible apply Rv.k_andVF)
  | (with_reducible apply Rv.k_orVT)
  | (with_reducible apply Rv.k_orVF)
  | (with_reducible apply Rv.k_addI)
  | (with_reducible apply Rv.k_subI)
  | ((with_reducible apply Rv.k_mulI); (focus (unfold L2.CMul; omega)))
  | ((with_reducible apply Rv.k_divI); (focus (unfold L2.CDiv; omega)))
  | ((with_reducible apply Rv.k_modI); (focus omega))
  | ((with_reducible apply Rv.k_powI); (focus (unfold L2.CPow; decide)))
  | (with_reducible apply Rv.k_negI)
  | (with_reducible apply Rv.k_ltI)
  | (with_reducible apply Rv.k_leI)
  | (with_reducible apply Rv.k_gtI)
  | (with_reducible apply Rv.k_geI)
  | (with_reducible apply Rv.k_eqI)
  | (with_reducible apply Rv.k_neI)
  | (with_reducible apply Rv.k_eqS)
  | (with_reducible apply Rv.k_neS)
  | (with_reducible apply Rv.k_isNN)
  | (with_reducible apply Rv.k_isNI)
  | (with_reducible apply Rv.k_isNR)
  | (with_reducible apply Rv.k_notNN)
  | (with_reducible apply Rv.k_notNI)
  | (with_reducible apply Rv.k_notNR)
  | ((with_reducible apply Rv.k_tyL); (focus lcg_sub))
  | ((with_reducible apply Rv.k_ixT); (focus lcg_sub); (focus with_unfolding_all rfl))
  | ((with_reducible apply Rv.k_ixL); (focus lcg_sub); (focus with_unfolding_all rfl))
  | ((with_reducible apply Rv.k_lenL); (focus lcg_sub))
  | ((with_reducible apply Rv.k_lenU); (focus lcg_sub))
  | ((with_reducible apply Rv.k_tup); (focus lcg_sub))
  | ((with_reducible apply Rv.k_lst); (focus lcg_sub))
  | ((with_reducible apply Rv.k_list); (focus lcg_sub))
  | ((with_reducible apply Rv.k_append); (focus lcg_sub); (focus lcg_sub))
  | ((with_reducible apply Rv.k_cat); (focus lcg_sub); (focus lcg_sub); (focus lcg_sub))
  | ((with_reducible apply Rv.k_clear); (focus lcg_sub))
  | (with_reducible apply Rv.k_int1)
  | (with_reducible apply Rv.k_max2)
  | (with_reducible apply Rv.k_min2)
  | (with_reducible apply Rv.k_str)
  | (with_reducible apply Rv.k_part)
  | (with_reducible apply Rv.r_M1)
  | (with_reducible apply Rv.r_dget)
  | (with_reducible apply Rv.r_din)
  | (with_reducible apply Rv.r_dnotin)
  | (with_reducible apply Rv.r_dget2)
  | (with_reducible apply Rv.r_sl)
  | (with_reducible apply Rv.r_nopart)
  | (with_reducible apply Rv.r_part)
  | (with_reducible apply Rv.r_for)
  | (with_reducible apply Rv.r_lc)
  | (with_reducible apply Rv.r_yes)
  | (with_reducible apply Rv.r_iList)
  | (with_reducible apply Rv.r_iRng1)
  | (with_reducible apply Rv.r_iRng2)
  | (with_reducible apply Rv.r_iZip)
  | (with_reducible apply Rv.r_iStr)
  | (with_reducible apply Rv.r_iKeys)
  | (with_reducible apply Rv.r_lstRg)
  | ((with_reducible apply Rv.k_itl); (focus lcg_sub))
  | ((with_reducible apply Rv.k_zip); (focus lcg_sub); (focus lcg_sub))
  | ((with_reducible apply Rv.k_rng1); (focus omega))
  | ((with_reducible apply Rv.k_rng2); (focus omega))
  | (with_reducible apply Rv.k_its)
  | (with_reducible apply Rv.r_retN)
  | (with_reducible apply Rv.r_next)
  | (with_reducible apply Rv.r_setF)
  | (with_reducible apply Rv.r_dput)
  | (with_reducible apply Rv.r_setI)
  | (with_reducible apply Rv.r_raise)
  | (with_reducible apply Rv.r_wF)
  | (with_reducible apply Rv.k_ifTT)
  | (with_reducible apply Rv.k_ifFF)
  | (with_reducible apply Rv.k_ifNT)
  | (with_reducible apply Rv.k_ifNF)
  | (with_reducible apply Rv.k_andNT)
  | (with_reducible apply Rv.k_andNF)
  | (with_reducible apply Rv.k_orNT)
  | (with_reducible apply Rv.k_orNF)
  | (with_reducible apply Rv.k_andVNT)
  | (with_reducible apply Rv.k_andVNF)
  | (with_reducible apply Rv.k_orVNT)
  | (with_reducible apply Rv.k_orVNF)
  | (with_reducible apply Rv.k_isB_ii)
  | (with_reducible apply Rv.k_isB_ib)
  | (with_reducible apply Rv.k_isB_bi)
  | (with_reducible apply Rv.k_isB_bb)
  | (with_reducible apply Rv.k_isB_ni)
  | (with_reducible apply Rv.k_isB_ss)
  | ((with_reducible apply Rv.k_isB_ll); (focus lcg_sub))
  | ((with_reducible apply Rv.k_isB_tt); (focus lcg_sub))
  | (with_reducible apply Rv.r_mk)
  | (with_reducible apply Rv.r_rg1)
  | (with_reducible apply Rv.k_rg1)
  | (with_reducible apply Rv.r_dpop1)
  | (with_reducible apply Rv.k_ifNNT)
  | (with_reducible apply Rv.k_ifNNF)
  | (with_reducible apply Rv.r_dropE)
  | (with_reducible apply Rv.r_dropR)
  | (with_reducible apply Rv.r_dropN)
  | (with_reducible apply Rv.r_dropM))
namespace Rv
open PySem L2
open SX (S S_inj S_len S_cat join_S num_S S_tl lens split_S int_S)
def t_River_initN := t_River_init
-- river_ofX: 0 line 1 words 2 below 3 word 4 found
def t_river_ofX (c : Cs) (E : XK) : TS :=
  (tSeq (tAsg (tM1 rSplit (tVar 0) (tC (.str " "))) (gName 1))
  (tSeq (tIfS (tOr (tTest (tOp rLtI (tCB (rLenS c.K) (tCons (tVar 1) tNil)) (tC (.int 2)))) (tOr (tTest (tOp rNe (tOp (rIxL c.K) (tVar 1) (tC (.int 0))) (tC (.str "river")))) (tTest (tOp rNe (tOp (rIxL c.K) (tVar 1) (tC (.int 1))) (tC (.str "-")))))) (tRaise (wF E) c.badText) tNext)
  (tSeq (tAsg (tLst (tCons (tC .non) tNil)) (gName 2))
  (tSeq (tFor (iList c.K (tSl (rSlL c.K) (tVar 1) (tPart (tC (.int 2))) tNoPart)) (gName 3)
  (tDrop (tBM c.K "list" rAppend (tVar 2) (tCons (tFn (sp_number c) (wF E) (tCons (tVar 3) (tCons (tC (.int 1000000)) tNil))) tNil))))
  (tSeq (tAsg (tC .non) (gName 4))
  (tSeq (tTryOnly c.K c.badRiver (fun W1 => (tAsg (tMakeS c.river (sp_River_init c) W1 (tCons (tVar 2) tNil)) (gName 4))) (fun a cls d => (tRaise (wF E) c.badText)) (wF E))
  (tRet (tVar 4))))))))
-- grantedX: 0 book 1 line 2 words 3 point
def t_grantedX (c : Cs) (E : XK) : TS :=
  (tSeq (tAsg (tM1 rSplit (tVar 1) (tC (.str " "))) (gName 2))
  (tSeq (tIfS (tOr (tTest (tOp rNe (tCB (rLenS c.K) (tCons (tVar 2) tNil)) (tC (.int 7)))) (tOr (tTest (tOp rNe (tOp (rIxL c.K) (tVar 2) (tC (.int 1))) (tC (.str "at")))) (tOr (tTest (tOp rNe (tOp (rIxL c.K) (tVar 2) (tC (.int 3))) (tC (.str "wants")))) (tTest (tOp rNe (tOp (rIxL c.K) (tVar 2) (tC (.int 5))) (tC (.str "since"))))))) (tRaise (wF E) c.badText) tNext)
  (tSeq (tIfS (tOr (tNot (tB (tFn (sp_is_name c) (wF E) (tCons (tOp (rIxL c.K) (tVar 2) (tC (.int 0))) tNil)))) (tTest (tOp (rIn c.K false) (tOp (rIxL c.K) (tVar 2) (tC (.int 0))) (tMethS c.book "names" (sp_Book_names c) (wF E) (tVar 0) tNil)))) (tRaise (wF E) c.badText) tNext)
  (tSeq (tAsg (tFn (sp_number c) (wF E) (tCons (tOp (rIxL c.K) (tVar 2) (tC (.int 2))) (tCons (tOp rSubI (tMethS c.river "points" (sp_River_points c) (wF E) (tMethS c.book "river" (sp_Book_river c) (wF E) (tVar 0) tNil) tNil) (tC (.int 1))) tNil))) (gName 3))
  (tDrop (tMethS c.book "grant" (sp_Book_grant c) (wF E) (tVar 0) (tCons (tOp (rIxL c.K) (tVar 2) (tC (.int 0))) (tCons (tVar 3) (tCons (tFn (sp_number c) (wF E) (tCons (tOp (rIxL c.K) (tVar 2) (tC (.int 4))) (tCons (tC (.int 1000000)) tNil))) (tCons (tFn (sp_number c) (wF E) (tCons (tOp (rIxL c.K) (tVar 2) (tC (.int 6))) (tCons (tC (.int 9999)) tNil))) tNil))))))))))
-- readX: 0 text 1 lines 2 book 3 line
def t_readX (c : Cs) (E : XK) : TS :=
  (tSeq (tAsg (tM1 rSplit (tVar 0) (tC (.str "\n"))) (gName 1))
  (tSeq (tIfS (tTest (tOp rGtI (tCB (rLenS c.K) (tCons (tVar 1) tNil)) (tOp rAddI (tC (.int 40)) (tC (.int 1))))) (tRaise (wF E) c.badText) tNext)
  (tSeq (tAsg (tMakeS c.book (sp_Book_init c) (wF E) (tCons (tFn (sp_river_ofX c) (wF E) (tCons (tOp (rIxL c.K) (tVar 1) (tC (.int 0))) tNil)) tNil)) (gName 2))
  (tSeq (tFor (iList c.K (tSl (rSlL c.K) (tVar 1) (tPart (tC (.int 1))) tNoPart)) (gName 3)
  (tDrop (tFn (sp_grantedX c) (wF E) (tCons (tVar 2) (tCons (tVar 3) tNil)))))
  (tSeq (tIfS (tTest (tOp rNe (tFn (sp_shown c) (wF E) (tCons (tVar 2) tNil)) (tVar 0))) (tRaise (wF E) c.badText) tNext)
  (tRet (tVar 2)))))))
section
variable {c : Cs}
theorem pure_River_initN (T : RiverT c) (vs : List V) (H : Hp) (Q : VK) (E : XK) (h : sp_River_initN c vs H Q E) : t_River_initN c E { nx := fun _ H' => Q .non H', rt := Q } (start ["self", "below", "point"] vs) H := pure_River_init T vs H Q E h
theorem strD (x y : List Nat) : decide (S x = S y) = decide (x = y) := by
  by_cases e : x = y
  · rw [e, decide_eq_true rfl, decide_eq_true rfl]
  · rw [decide_eq_false e, decide_eq_false fun z => e (S_inj z)]
theorem pure_river_ofX (m : PySem.W.exmOne c.K (.ref c.badRiver) (.ref c.badRiver) = some true) (vs : List V) (H : Hp) (Q : VK) (E : XK) (h : sp_river_ofX c vs H Q E) : t_river_ofX c E { nx := fun _ H' => Q .non H', rt := Q } (start ["line", "words", "below", "word", "found"] vs) H := by
  obtain ⟨z, rfl, k⟩ := h
  unfold t_river_ofX
  rw [spaceS, riverS, dashS]
  rcases k with ⟨B, hB, rfl, k⟩ | ⟨hz, k, kE⟩
  · have hf := hB.few
    have hhl := head_len hB
    repeat lcg_off
    refine k_split (by decide) (by decide) (by omega) fun p H1 hp e1 h1 => ?_
    repeat lcg_off
    rw [spl_head] at h1 ⊢
    rw [show (((riverL :: [45] :: B.map TL.numL).map S).map V.str).length = B.length + 2 by simp]
    repeat lcg_off
    refine k_orD (fun z => absurd z (by omega)) fun _ => ?_
    repeat lcg_off
    refine k_ixL (SqL.of h1) (str_at _ 0 riverL rfl) ?_
    repeat lcg_off
    refine k_orN (fun z => absurd rfl z) fun _ => ?_
    repeat lcg_off
    refine k_ixL (SqL.of h1) (str_at _ 1 [45] rfl) ?_
    repeat lcg_off
    refine k_ifN (fun z => absurd rfl z) fun _ => ?_
    repeat lcg_off
    intro q H2 hq e2 h2
    repeat lcg_off
    refine k_slL (SqL.of (e2.g _ _ h1)) fun s H3 hs e3 h3 => ?_
    rw [show (2 : Int) = ((2 : Nat) : Int) from rfl, cutV_from (by simp)] at h3
    have h3' : H3 s = some (.lst (((B.map TL.numL).map S).map V.str)) := h3
    have h23 := e3.g _ _ h2
    have nsq : s ≠ q := ne_fn hs h2
    repeat lcg_off
    refine k_forL (fun i σ H' => (∃ v, σ = [some (.str (S (headL B))), some (.ref p), some (.ref q), v, none]) ∧ But [q] H3 H' ∧ H' q = some (.lst (.non :: (B.take i).map nV))) ⟨⟨_, rfl⟩, (Ext.refl _).but, h23⟩ (fun i σ H' _ r => SqL.of (r.2.1.g _ _ h3' (nin_cons nsq nin_nil))) ?_ ?_
    · rintro i v σ H4 hv ⟨⟨v3, rfl⟩, b4, h4⟩
      rw [List.getElem?_map, List.getElem?_map, List.getElem?_map] at hv
      cases hq' : B[i]? with
      | none =>
        rw [hq'] at hv
        cases hv
      | some n =>
        rw [hq'] at hv
        obtain rfl : V.str (S (TL.numL n)) = v := Option.some.inj hv
        have hn := bel_small hB (List.mem_of_getElem? hq')
        have hi := get_lt hq'
        show tDrop _ _ [some (.str (S (headL B))), some (.ref p), some (.ref q), some (.str (S (TL.numL n))), none] _
        repeat lcg_off
        have hnl := num_small (n := n) (by omega)
        refine ⟨TL.numL n, _, rfl, by omega, fun _ => ?_, fun z => absurd (numL_ok (by omega) (by omega)) z⟩
        rw [TL.numL_val]
        repeat lcg_off
        try refine k_append h4 (sz_lt (by rw [List.length_cons, List.length_map, List.length_take]; omega)) ?_
        intro H5 b5 h5
        repeat lcg_off
        refine ⟨⟨_, rfl⟩, b4.trans b5, ?_⟩
        rw [h5, take_snoc hq', List.map_append]
        rfl
    · rintro σ H4 ⟨⟨v3, rfl⟩, b4, h4⟩
      rw [List.length_map, List.length_map, List.length_map, List.take_length] at h4
      have e14 : Ext H H4 := ((e1.trans (e2)).ac.step e3 |>.but b4 (frs_cons (e1.free hq) frs_nil)).ext
      repeat lcg_off
      show tAsg _ _ _ _ _
      repeat lcg_off
      refine k_mkRiver (SqL.of h4) hB fun x l H5 hx hl hxl e5 A5 => ?_
      repeat lcg_off
      exact k x l H5 (e14.free hx) (e14.free hl) hxl (e14.trans e5) A5
  · repeat lcg_off
    refine k_split (by decide) (by decide) (by omega) fun p H1 hp e1 h1 => ?_
    repeat lcg_off
    have hlen : (((TL.spl [32] 0 [] z).map S).map V.str).length = (TL.spl [32] 0 [] z).length := by rw [List.length_map, List.length_map]
    rw [hlen]
    have hw := spl1_len 32 z []
    have hwm : ∀ w ∈ TL.spl [32] 0 [] z, w.length ≤ 900 := fun w hw => by
      have := (spl1_mem 32 z [] w hw).1
      have : ([] : List Nat).length = 0 := rfl
      omega
    repeat lcg_off
    refine k_orD (fun _ => ?_) (fun g1 => ?_)
    · repeat lcg_off
      exact kE H1 e1
    have hl2 : 2 ≤ (TL.spl [32] 0 [] z).length := by omega
    generalize TL.spl [32] 0 [] z = L at *
    have g0 : L[0]? = some L[0] := List.getElem?_eq_getElem (by omega)
    have g2 : L[1]? = some L[1] := List.getElem?_eq_getElem (by omega)
    repeat lcg_off
    refine k_ixL (SqL.of h1) (str_at L 0 _ g0) ?_
    repeat lcg_off
    refine k_orN (fun _ => ?_) (fun g3 => ?_)
    · repeat lcg_off
      exact kE H1 e1
    repeat lcg_off
    refine k_ixL (SqL.of h1) (str_at L 1 _ g2) ?_
    repeat lcg_off
    refine k_ifN (fun _ => ?_) (fun g4 => ?_)
    · repeat lcg_off
      exact kE H1 e1
    repeat lcg_off
    intro q H2 hq e2 h2
    repeat lcg_off
    refine k_slL (SqL.of (e2.g _ _ h1)) fun s H3 hs e3 h3 => ?_
    rw [show (2 : Int) = ((2 : Nat) : Int) from rfl, cutV_from (by rw [List.length_map, List.length_map]; omega)] at h3
    have h3' : H3 s = some (.lst (((L.drop 2).map S).map V.str)) := by rw [h3, List.map_drop, List.map_drop]
    have h23 := e3.g _ _ h2
    have nsq : s ≠ q := ne_fn hs h2
    repeat lcg_off
    refine k_forL (fun i σ H' => (∃ v, σ = [some (.str (S z)), some (.ref p), some (.ref q), v, none]) ∧ But [q] H3 H' ∧ ∃ Ns : List Nat, Ns.length = i ∧ H' q = some (.lst (.non :: Ns.map nV))) ⟨⟨_, rfl⟩, (Ext.refl _).but, [], rfl, h23⟩ (fun i σ H' _ r => SqL.of (r.2.1.g _ _ h3' (nin_cons nsq nin_nil))) ?_ ?_
    · rintro i v σ H4 hv ⟨⟨v3, rfl⟩, b4, Ns, hNs, h4⟩
      have hil := get_lt hv
      rw [List.length_map, List.length_map, List.length_drop] at hil
      rw [List.getElem?_map, List.getElem?_map] at hv
      cases hq' : (L.drop 2)[i]? with
      | none =>
        rw [hq'] at hv
        cases hv
      | some w =>
        rw [hq'] at hv
        obtain rfl : V.str (S w) = v := Option.some.inj hv
        have hwl := hwm w (List.mem_of_mem_drop (List.mem_of_getElem? hq'))
        have e14 : Ext H H4 := ((e1.trans (e2)).ac.step e3 |>.but b4 (frs_cons (e1.free hq) frs_nil)).ext
        show tDrop _ _ [some (.str (S z)), some (.ref p), some (.ref q), some (.str (S w)), none] _
        repeat lcg_off
        refine ⟨w, _, rfl, by omega, fun _ => ?_, fun _ => kE H4 e14⟩
        repeat lcg_off
        try refine k_append h4 (sz_lt (by rw [List.length_cons, List.length_map]; omega)) ?_
        intro H5 b5 h5
        repeat lcg_off
        refine ⟨⟨_, rfl⟩, b4.trans b5, Ns ++ [NumText.digitsVal w], by rw [List.length_append, hNs]; rfl, ?_⟩
        rw [h5, List.map_append]
        rfl
    · rintro σ H4 ⟨⟨v3, rfl⟩, b4, Ns, hNs, h4⟩
      rw [List.length_map, List.length_map, List.length_drop] at hNs
      have e14 : Ext H H4 := ((e1.trans (e2)).ac.step e3 |>.but b4 (frs_cons (e1.free hq) frs_nil)).ext
      repeat lcg_off
      show tAsg _ _ _ _ _
      repeat lcg_off
      by_cases hR : Riv Ns
      · refine k_mkRiver (SqL.of h4) hR fun x l H5 hx hl hxl e5 A5 => ?_
        repeat lcg_off
        exact k Ns x l H5 hR (e14.free hx) (e14.free hl) hxl (e14.trans e5) A5
      · have er : (none :: Ns.map fun (n : Nat) => some (n : Int)).map oV = belV Ns := by
          unfold belV
          rw [List.map_cons, List.map_map]
          rfl
        have hno : ∀ B, ¬ Tells (none :: Ns.map fun (n : Nat) => some (n : Int)) B := fun B t => by
          have h1 := rows_of (List.cons.inj t.1).2
          rw [rows_inj h1] at hR
          exact hR t.2
        refine k_mk fun x dx H5 hx e5 h5 => ⟨x, dx, q, none :: Ns.map fun (n : Nat) => some (n : Int), rfl, h5, ?_, by rw [List.length_cons, List.length_map]; omega, fun B t => absurd t (hno B), fun _ => ?_⟩
        · rw [er]
          exact SqL.of (e5.g _ _ h4)
        · refine ⟨true, m, fun _ a ha => ?_, fun z => by cases z⟩
          show tRaise _ _ _ _ _
          repeat lcg_off
          exact kE H5 (e14.trans e5)
theorem pure_grantedX (vs : List V) (H : Hp) (Q : VK) (E : XK) (h : sp_grantedX c vs H Q E) : t_grantedX c E { nx := fun _ H' => Q .non H', rt := Q } (start ["book", "line", "words", "point"] vs) H := by
  obtain ⟨b, r, l, B, d, R, z, rfl, A, hRl, h⟩ := h
  unfold t_grantedX
  rw [spaceS, atS, wantsS, sinceS]
  rcases h with ⟨w, rfl, ok, nok, hwp, hnin, k⟩ | ⟨hz, k, kE⟩
  · have hll := line_len ok
    have hf := A.riv.ok.few
    have ha0 := ok.a0
    have ha1 := ok.a1
    have hd0 := ok.d0
    have hd1 := ok.d1
    have hn8 : w.n.cps.toList.length ≤ 8 := ok.n
    have l1 := num_small (n := w.p) (by omega)
    have l2 := num_small (n := w.a.toNat) (by omega)
    have l3 := num_small (n := w.d.toNat) (by omega)
    repeat lcg_off
    refine k_split (by decide) (by decide) (by omega) fun p H1 hp e1 h1 => ?_
    rw [spl_line nok] at h1
    have q1 := SqL.of (K := c.K) h1
    have A1 := A.ext e1
    repeat lcg_off
    refine k_orN (fun z => absurd rfl z) fun _ => ?_
    repeat lcg_off
    try refine k_ixL q1 (str_at _ 1 atL rfl) ?_
    repeat lcg_off
    refine k_orN (fun z => absurd rfl z) fun _ => ?_
    repeat lcg_off
    try refine k_ixL q1 (str_at _ 3 wantsL rfl) ?_
    repeat lcg_off
    refine k_orN (fun z => absurd rfl z) fun _ => ?_
    repeat lcg_off
    try refine k_ixL q1 (str_at _ 5 sinceL rfl) ?_
    repeat lcg_off
    refine k_ifN (fun z => absurd rfl z) fun _ => ?_
    repeat lcg_off
    try refine k_ixL q1 (str_at _ 0 w.n.cps.toList rfl) ?_
    repeat lcg_off
    refine ⟨w.n.cps.toList, rfl, by omega, fun _ => ?_, fun z => absurd nok z⟩
    repeat lcg_off
    try refine k_ixL q1 (str_at _ 0 w.n.cps.toList rfl) ?_
    repeat lcg_off
    refine k_meth A1.ob.choose_spec (by lcg_src) ?_
    repeat lcg_off
    refine ⟨b, r, l, B, d, R, rfl, A1, fun nm H2 hnm e2 h2 => ?_⟩
    have h2' : H2 nm = some (.lst (((agedR R).map Rw.n).map V.str)) := by
      rw [h2, List.map_map]
      rfl
    have q2 := e2.sq q1
    have A2 := A1.ext e2
    refine k_inL (SqL.of h2') rfl (all_flat_str _) ?_
    repeat lcg_off
    rw [inV_str]
    have hnin' : S w.n.cps.toList ∉ (agedR R).map Rw.n := fun z => hnin (((agedR_perm R).map Rw.n).mem_iff.mp z)
    refine k_ifD (fun z => absurd z hnin') fun _ => ?_
    repeat lcg_off
    try refine k_ixL q2 (str_at _ 2 (TL.numL w.p) rfl) ?_
    repeat lcg_off
    refine k_meth A2.ob.choose_spec (by lcg_src) ?_
    repeat lcg_off
    refine ⟨b, r, l, B, d, R, rfl, A2, ?_⟩
    refine k_meth A2.riv.ob.choose_spec (by lcg_src) ?_
    repeat lcg_off
    refine ⟨r, l, B, rfl, A2.riv, ?_⟩
    repeat lcg_off
    refine ⟨TL.numL w.p, _, rfl, by omega, fun _ => ?_, fun z => absurd (numL_ok (by omega) (by omega)) z⟩
    rw [TL.numL_val]
    repeat lcg_off
    refine k_meth A2.ob.choose_spec (by lcg_src) ?_
    repeat lcg_off
    try refine k_ixL q2 (str_at _ 0 w.n.cps.toList rfl) ?_
    repeat lcg_off
    try refine k_ixL q2 (str_at _ 4 (TL.numL w.a.toNat) rfl) ?_
    repeat lcg_off
    refine ⟨TL.numL w.a.toNat, _, rfl, by omega, fun _ => ?_, fun z => absurd (numL_ok (by omega) (by omega)) z⟩
    rw [TL.numL_val, Int.toNat_of_nonneg ha0]
    repeat lcg_off
    try refine k_ixL q2 (str_at _ 6 (TL.numL w.d.toNat) rfl) ?_
    repeat lcg_off
    refine ⟨TL.numL w.d.toNat, _, rfl, by omega, fun _ => ?_, fun z => absurd (numL_ok (by omega) (by omega)) z⟩
    rw [TL.numL_val, Int.toNat_of_nonneg hd0]
    repeat lcg_off
    refine ⟨b, r, l, B, d, R, w.n, (w.p : Int), w.a, w.d, rfl, A2, by omega, fun z => absurd z hnin, fun _ z => absurd (by omega) z, fun _ p' ep hp' H3 b3 t3 A3 => ?_⟩
    obtain rfl : p' = w.p := by omega
    repeat lcg_off
    exact k H3 ((e1.trans e2).but.trans b3) ((e1.trans e2).tup.trans t3) A3
  · have hf := A.riv.ok.few
    repeat lcg_off
    refine k_split (by decide) (by decide) (by omega) fun p H1 hp e1 h1 => ?_
    have hwm : ∀ w ∈ TL.spl [32] 0 [] z, w.length ≤ 900 := fun w hw => by
      have := (spl1_mem 32 z [] w hw).1
      have : ([] : List Nat).length = 0 := rfl
      omega
    repeat lcg_off
    have hlen : (((TL.spl [32] 0 [] z).map S).map V.str).length = (TL.spl [32] 0 [] z).length := by rw [List.length_map, List.length_map]
    rw [hlen]
    have q1 := SqL.of (K := c.K) h1
    have A1 := A.ext e1
    refine k_orN (fun _ => ?_) (fun g0 => ?_)
    · repeat lcg_off
      exact kE H1 e1
    have hl7 : (TL.spl [32] 0 [] z).length = 7 := by omega
    generalize TL.spl [32] 0 [] z = L at *
    have gi : ∀ i, (h : i < 7) → L[i]? = some (L[i]'(by omega)) := fun i h => List.getElem?_eq_getElem (by omega)
    have gl : ∀ i, (h : i < 7) → (L[i]'(by omega)).length ≤ 900 := fun i h => hwm _ (List.getElem_mem (by omega))
    repeat lcg_off
    refine k_ixL q1 (str_at L 1 _ (gi 1 (by decide))) ?_
    repeat lcg_off
    refine k_orN (fun _ => ?_) (fun g1 => ?_)
    · repeat lcg_off
      exact kE H1 e1
    repeat lcg_off
    refine k_ixL q1 (str_at L 3 _ (gi 3 (by decide))) ?_
    repeat lcg_off
    refine k_orN (fun _ => ?_) (fun g3 => ?_)
    · repeat lcg_off
      exact kE H1 e1
    repeat lcg_off
    refine k_ixL q1 (str_at L 5 _ (gi 5 (by decide))) ?_
    repeat lcg_off
    refine k_ifN (fun _ => ?_) (fun g5 => ?_)
    · repeat lcg_off
      exact kE H1 e1
    repeat lcg_off
    refine k_ixL q1 (str_at L 0 _ (gi 0 (by decide))) ?_
    repeat lcg_off
    have l0 := gl 0 (by decide)
    have l2 := gl 2 (by decide)
    have l4 := gl 4 (by decide)
    have l6 := gl 6 (by decide)
    have i0 := gi 0 (by decide)
    have i2 := gi 2 (by decide)
    have i4 := gi 4 (by decide)
    have i6 := gi 6 (by decide)
    generalize L[0]'(by omega) = w0 at *
    generalize L[2]'(by omega) = w2 at *
    generalize L[4]'(by omega) = w4 at *
    generalize L[6]'(by omega) = w6 at *
    refine ⟨w0, rfl, by omega, fun nok => ?_, fun _ => ?_⟩
    rotate_left
    · repeat lcg_off
      exact kE H1 e1
    repeat lcg_off
    refine k_ixL q1 (str_at L 0 _ i0) ?_
    repeat lcg_off
    refine k_meth A1.ob.choose_spec (by lcg_src) ?_
    repeat lcg_off
    refine ⟨b, r, l, B, d, R, rfl, A1, fun nm H2 hnm e2 h2 => ?_⟩
    have h2' : H2 nm = some (.lst (((agedR R).map Rw.n).map V.str)) := by
      rw [h2, List.map_map]
      rfl
    have q2 := e2.sq q1
    have A2 := A1.ext e2
    have e12 := e1.trans e2
    refine k_inL (SqL.of h2') rfl (all_flat_str _) ?_
    repeat lcg_off
    rw [inV_str]
    refine k_ifD (fun _ => ?_) (fun hnin => ?_)
    · repeat lcg_off
      exact kE H2 e12
    have hnin' : S w0 ∉ R.map Rw.n := fun z => hnin (((agedR_perm R).map Rw.n).mem_iff.mpr z)
    repeat lcg_off
    refine k_ixL q2 (str_at L 2 _ i2) ?_
    repeat lcg_off
    refine k_meth A2.ob.choose_spec (by lcg_src) ?_
    repeat lcg_off
    refine ⟨b, r, l, B, d, R, rfl, A2, ?_⟩
    refine k_meth A2.riv.ob.choose_spec (by lcg_src) ?_
    repeat lcg_off
    refine ⟨r, l, B, rfl, A2.riv, ?_⟩
    repeat lcg_off
    refine ⟨w2, _, rfl, by omega, fun n2 => ?_, fun _ => kE H2 e12⟩
    have b2 := n2.2.2.2
    repeat lcg_off
    refine k_meth A2.ob.choose_spec (by lcg_src) ?_
    repeat lcg_off
    refine k_ixL q2 (str_at L 0 _ i0) ?_
    repeat lcg_off
    refine k_ixL q2 (str_at L 4 _ i4) ?_
    repeat lcg_off
    refine ⟨w4, _, rfl, by omega, fun n4 => ?_, fun _ => kE H2 e12⟩
    have b4 := n4.2.2.2
    repeat lcg_off
    refine k_ixL q2 (str_at L 6 _ i6) ?_
    repeat lcg_off
    refine ⟨w6, _, rfl, by omega, fun n6 => ?_, fun _ => kE H2 e12⟩
    have b6 := n6.2.2.2
    repeat lcg_off
    refine ⟨b, r, l, B, d, R, S w0, _, _, _, rfl, A2, by omega, fun z => absurd z hnin', fun _ z => absurd (by omega) z, fun _ p' ep hp' H3 b3 t3 A3 => ?_⟩
    repeat lcg_off
    refine k ⟨S w0, p', _, _⟩ H3 ⟨?_, Int.natCast_nonneg _, b4, Int.natCast_nonneg _, b6, by show p' < 40; omega⟩ nok hp' hnin' (e12.but.trans b3) (e12.tup.trans t3) A3
    show (S w0).length ≤ 8
    rw [S_len]
    exact nok.2.1
theorem pure_readX (vs : List V) (H : Hp) (Q : VK) (E : XK) (h : sp_readX c vs H Q E) : t_readX c E { nx := fun _ H' => Q .non H', rt := Q } (start ["text", "lines", "book", "line"] vs) H := by
  obtain ⟨z, rfl, h⟩ := h
  unfold t_readX
  rw [lineS]
  rcases h with ⟨B, R, rfl, hB, nd, hR, hRl, k⟩ | ⟨hz, hbad, kE⟩
  · have htl := text_len hB (fun w hw => (hR w hw).1) (show R.length ≤ 1000 by omega)
    have hal := agedR_len R
    have hhl := head_len hB
    repeat lcg_off
    refine k_split (by decide) (by decide) (by omega) fun p H1 hp e1 h1 => ?_
    rw [spl_text fun w hw => (hR w hw).2.1] at h1
    repeat lcg_off
    rw [show (((headL B :: (agedR R).map lineL).map S).map V.str).length = R.length + 1 by simp [hal]]
    repeat lcg_off
    refine k_ifD (fun z => absurd z (by omega)) fun _ => ?_
    repeat lcg_off
    refine k_ixL (SqL.of h1) (str_at _ 0 (headL B) rfl) ?_
    repeat lcg_off
    refine ⟨headL B, rfl, .inl ⟨B, hB, rfl, fun r l H2 hr hl hrl e2 A2 => ?_⟩⟩
    repeat lcg_off
    refine k_mkBook A2 fun x d H3 hx hd hxd e3 A3 => ?_
    have e13 := (e1.trans e2).trans e3
    repeat lcg_off
    refine k_slL (SqL.of (e3.g _ _ (e2.g _ _ h1))) fun s H4 hs e4 h4 => ?_
    rw [show (1 : Int) = ((1 : Nat) : Int) from rfl, cutV_from (by simp)] at h4
    have h4' : H4 s = some (.lst ((((agedR R).map lineL).map S).map V.str)) := h4
    have A4 := A3.ext e4
    have hd4 : H d = none := (e1.trans e2).free hd
    repeat lcg_off
    refine k_forL (fun i σ H' => (∃ v, σ = [some (.str (S (textL B R))), some (.ref p), some (.ref x), v]) ∧ But [d] H4 H' ∧ TupE H4 H' ∧ BokAt c H' x r l B d ((agedR R).take i)) ⟨⟨_, rfl⟩, (Ext.refl _).but, TupE.refl _, A4⟩ (fun i σ H' _ q => SqL.of (q.2.1.g _ _ h4' (nin_cons (A4.dic.ne h4' fun _ z => by cases z) nin_nil))) ?_ ?_
    · rintro i v σ H5 hv ⟨⟨v3, rfl⟩, b5, t5, A5⟩
      rw [List.getElem?_map, List.getElem?_map, List.getElem?_map] at hv
      cases hw : (agedR R)[i]? with
      | none =>
        rw [hw] at hv
        cases hv
      | some w =>
        rw [hw] at hv
        obtain rfl : V.str (S (lineL w)) = v := Option.some.inj hv
        obtain ⟨ok, nok, hwp⟩ := hR w (agedR_mem.mp (List.mem_of_getElem? hw))
        show tDrop _ _ [some (.str (S (textL B R))), some (.ref p), some (.ref x), some (.str (S (lineL w)))] _
        repeat lcg_off
        refine ⟨x, r, l, B, d, _, lineL w, rfl, A5, by rw [List.length_take]; omega, .inl ⟨w, rfl, ok, nok, hwp, nodup_fresh (agedR_nodup nd) hw, fun H6 b6 t6 A6 => ?_⟩⟩
        repeat lcg_off
        refine ⟨⟨_, rfl⟩, b5.trans b6, t5.trans t6, ?_⟩
        rw [take_snoc hw]
        exact A6
    · rintro σ H5 ⟨⟨v3, rfl⟩, b5, t5, A5⟩
      rw [List.length_map, List.length_map, List.length_map, List.take_length] at A5
      repeat lcg_off
      refine ⟨x, r, l, B, d, _, rfl, A5, fun w hw => (hR w (agedR_mem.mp hw)).1, fun H6 e6 => ?_⟩
      rw [text_aged nd]
      repeat lcg_off
      refine k_ifN (fun z => absurd rfl z) fun _ => ?_
      repeat lcg_off
      have e15 : Ext H H5 := ((e13.trans e4).ac.but b5 (frs_cons hd4 frs_nil)).ext
      exact k x r l d H6 ((e1.trans e2).free hx) (e1.free hr) (e1.free hl) hd4 (e15.trans e6) (A5.ext e6)
  · repeat lcg_off
    refine k_split (by decide) (by decide) (by omega) fun p H1 hp e1 h1 => ?_
    have hwm : ∀ w ∈ TL.spl [10] 0 [] z, w.length ≤ 900 := fun w hw => by
      have := (spl1_mem 10 z [] w hw).1
      have : ([] : List Nat).length = 0 := rfl
      omega
    repeat lcg_off
    have hlen : (((TL.spl [10] 0 [] z).map S).map V.str).length = (TL.spl [10] 0 [] z).length := by rw [List.length_map, List.length_map]
    rw [hlen]
    refine k_ifD (fun _ => ?_) (fun g0 => ?_)
    · repeat lcg_off
      exact kE H1 e1
    have hne := spl1_ne 10 z []
    have hl0 : 0 < (TL.spl [10] 0 [] z).length := List.length_pos_iff.mpr hne
    generalize TL.spl [10] 0 [] z = L at *
    have i0 : L[0]? = some L[0] := List.getElem?_eq_getElem (by omega)
    have l0 := hwm L[0] (List.getElem_mem (by omega))
    repeat lcg_off
    refine k_ixL (SqL.of h1) (str_at L 0 _ i0) ?_
    repeat lcg_off
    refine ⟨L[0], rfl, .inr ⟨l0, fun B r l H2 hB hr hl hrl e2 A2 => ?_, fun H2 e2 => kE H2 (e1.trans e2)⟩⟩
    repeat lcg_off
    refine k_mkBook A2 fun x d H3 hx hd hxd e3 A3 => ?_
    have e13 := (e1.trans e2).trans e3
    repeat lcg_off
    refine k_slL (SqL.of (e3.g _ _ (e2.g _ _ h1))) fun s H4 hs e4 h4 => ?_
    rw [show (1 : Int) = ((1 : Nat) : Int) from rfl, cutV_from (by rw [List.length_map, List.length_map]; omega)] at h4
    have h4' : H4 s = some (.lst (((L.drop 1).map S).map V.str)) := by rw [h4, List.map_drop, List.map_drop]
    have A4 := A3.ext e4
    have hd4 : H d = none := (e1.trans e2).free hd
    repeat lcg_off
    refine k_forL (fun i σ H' => (∃ v, σ = [some (.str (S z)), some (.ref p), some (.ref x), v]) ∧ But [d] H4 H' ∧ TupE H4 H' ∧ ∃ R, R.length = i ∧ (∀ w ∈ R, okW w ∧ nameOk w.n.cps.toList ∧ w.p ≤ B.length) ∧ BokAt c H' x r l B d R) ⟨⟨_, rfl⟩, (Ext.refl _).but, TupE.refl _, [], rfl, (fun w hw => by cases hw), A4⟩ (fun i σ H' _ q => SqL.of (q.2.1.g _ _ h4' (nin_cons (A4.dic.ne h4' fun _ z => by cases z) nin_nil))) ?_ ?_
    · rintro i v σ H5 hv ⟨⟨v3, rfl⟩, b5, t5, R, hRi, hR, A5⟩
      have hil := get_lt hv
      rw [List.length_map, List.length_map, List.length_drop] at hil
      rw [List.getElem?_map, List.getElem?_map] at hv
      cases hq' : (L.drop 1)[i]? with
      | none =>
        rw [hq'] at hv
        cases hv
      | some w =>
        rw [hq'] at hv
        obtain rfl : V.str (S w) = v := Option.some.inj hv
        have hwl := hwm w (List.mem_of_mem_drop (List.mem_of_getElem? hq'))
        have e15 : Ext H H5 := ((e13.trans e4).ac.but b5 (frs_cons hd4 frs_nil)).ext
        show tDrop _ _ [some (.str (S z)), some (.ref p), some (.ref x), some (.str (S w))] _
        repeat lcg_off
        refine ⟨x, r, l, B, d, R, w, rfl, A5, by omega, .inr ⟨hwl, fun u H6 ok nok hup hnin b6 t6 A6 => ?_, fun H6 e6 => kE H6 (e15.trans e6)⟩⟩
        repeat lcg_off
        refine ⟨⟨_, rfl⟩, b5.trans b6, t5.trans t6, R ++ [u], by rw [List.length_append, hRi]; rfl, fun y hy => ?_, A6⟩
        rcases List.mem_append.mp hy with hy | hy
        · exact hR y hy
        · rw [List.mem_singleton.mp hy]
          exact ⟨ok, nok, hup⟩
    · rintro σ H5 ⟨⟨v3, rfl⟩, b5, t5, R, hRi, hR, A5⟩
      rw [List.length_map, List.length_map, List.length_drop] at hRi
      have e15 : Ext H H5 := ((e13.trans e4).ac.but b5 (frs_cons hd4 frs_nil)).ext
      repeat lcg_off
      refine ⟨x, r, l, B, d, R, rfl, A5, fun w hw => (hR w hw).1, fun H6 e6 => ?_⟩
      repeat lcg_off
      rw [strD]
      refine k_ifN (fun _ => ?_) (fun ez => ?_)
      · repeat lcg_off
        exact kE H6 (e15.trans e6)
      · exact absurd ⟨B, R, ez.symm, hB, A5.nd, hR, by omega⟩ hbad
end
end Rv

end
namespace Rv
open PySem PySem.Spec PyProof.Rows
/-! ### set(xs), xs a list of texts: its members in the order in which they are met first -/
def ddS (σ : List Str) (k : Str) : List Str := if k ∈ σ then σ else σ ++ [k]
def ddL (xs : List Str) : List Str := xs.foldl ddS []
theorem snoc_ind {p : List Str → Prop} (h0 : p []) (h1 : ∀ xs x, p xs → p (xs ++ [x])) (xs : List Str) : p xs := by
  have h : ∀ ys : List Str, p ys.reverse := by
    intro ys
    induction ys with
    | nil => exact h0
    | cons y ys ih =>
      rw [List.reverse_cons]
      exact h1 _ _ ih
  have := h xs.reverse
  rw [List.reverse_reverse] at this
  exact this
theorem ddL_snoc (xs : List Str) (x : Str) : ddL (xs ++ [x]) = ddS (ddL xs) x := by
  unfold ddL
  rw [List.foldl_append]
  rfl
theorem ddS_mem {σ : List Str} {k j : Str} : j ∈ ddS σ k ↔ j ∈ σ ∨ j = k := by
  unfold ddS
  by_cases h : k ∈ σ
  · rw [if_pos h]
    exact ⟨.inl, fun z => z.elim id fun e => e ▸ h⟩
  · rw [if_neg h, List.mem_append, List.mem_singleton]
theorem ddS_len (σ : List Str) (k : Str) : (ddS σ k).length = if k ∈ σ then σ.length else σ.length + 1 := by
  unfold ddS
  by_cases h : k ∈ σ
  · rw [if_pos h, if_pos h]
  · rw [if_neg h, if_neg h, List.length_append]
    rfl
theorem ddL_len (xs : List Str) : (ddL xs).length ≤ xs.length := by
  refine snoc_ind (p := fun xs => (ddL xs).length ≤ xs.length) (Nat.le_refl _) (fun xs x ih => ?_) xs
  have e : (xs ++ [x]).length = xs.length + 1 := by rw [List.length_append]; rfl
  rw [ddL_snoc, ddS_len, e]
  split <;> omega
theorem ddL_mem (xs : List Str) (j : Str) : j ∈ ddL xs ↔ j ∈ xs := by
  refine snoc_ind (p := fun xs => j ∈ ddL xs ↔ j ∈ xs) Iff.rfl (fun xs x ih => ?_) xs
  rw [ddL_snoc, ddS_mem, ih, List.mem_append, List.mem_singleton]
theorem ddL_nodup (xs : List Str) : (ddL xs).length = xs.length ↔ xs.Nodup := by
  refine snoc_ind (p := fun xs => (ddL xs).length = xs.length ↔ xs.Nodup) ⟨fun _ => List.nodup_nil, fun _ => rfl⟩ (fun xs x ih => ?_) xs
  have e : (xs ++ [x]).length = xs.length + 1 := by rw [List.length_append]; rfl
  have hl := ddL_len xs
  have hn : (xs ++ [x]).Nodup ↔ xs.Nodup ∧ x ∉ xs := by
    rw [List.nodup_append]
    refine ⟨fun z => ⟨z.1, fun hx => z.2.2 x hx x List.mem_cons_self rfl⟩, fun z => ⟨z.1, List.nodup_cons.mpr ⟨(fun q => by cases q), .nil⟩, fun a ha b hb q => z.2 ?_⟩⟩
    rw [← List.mem_singleton.mp hb, ← q]
    exact ha
  rw [ddL_snoc, ddS_len, e, hn, ← ih]
  by_cases h : x ∈ ddL xs
  · rw [if_pos h]
    exact ⟨fun z => by omega, fun z => absurd ((ddL_mem xs x).mp h) z.2⟩
  · rw [if_neg h]
    exact ⟨fun z => ⟨by omega, fun q => h ((ddL_mem xs x).mpr q)⟩, fun z => by omega⟩
theorem ddL_step {xs : List Str} {i : Nat} (hi : i < xs.length) : ddL (xs.take (i + 1)) = ddS (ddL (xs.take i)) (xs.getD i Str.empty) := by
  rw [List.take_succ_eq_append_getElem hi, ddL_snoc, List.getD_eq_getElem?_getD, List.getElem?_eq_getElem hi]
  rfl
section
variable {P : Program} {w : World} {A : Around} {E : Value → Shared → Prop} {s : Shared} {S : Addr} {m : List Str}
/-- the set at S has the members m -/
structure TxtSet (P : Program) (w : World) (h : Heap) (S : Addr) (m : List Str) : Prop where
  of : h.SetOf (strKind P w) S (fun k => decide (k ∈ m)) m.length
theorem TxtSet.stay {h h' : Heap} (T : TxtSet P w h S m) (k : ∀ o, h.get? S = some o → h'.get? S = some o) : TxtSet P w h' S m :=
  match T.of with
  | ⟨o, es, ep, tb, ho, r⟩ => ⟨⟨o, es, ep, tb, k o ho, r⟩⟩
theorem TxtSet.put {x : Str} {u : Tok} {Q : Bool → Shared → Prop} (T : TxtSet P w s.heap S m) (room : m.length + 1 < scanBound)
    (k : ∀ b h', Heap.SameBut S s.heap h' → TxtSet P w h' S (ddS m x) → Q b { s with heap := h', toks := s.toks + 1 }) : wpAny (model P w) A (setAdd S (.str x u)) Q E s := by
  have ends : ∀ h', h'.SetOf (strKind P w) S (fun k' => decide (k' ∈ m) || decide (k' = x)) (if decide (x ∈ m) = true then m.length else m.length + 1) → TxtSet P w h' S (ddS m x) := fun h' q => ⟨SetOf_congr q (fun j => by
    rw [← Bool.decide_or]
    exact decide_eq_decide.mpr ddS_mem.symm) (by
    rw [ddS_len]
    by_cases z : x ∈ m
    · rw [if_pos z, if_pos (decide_eq_true z)]
    · rw [if_neg z, if_neg (by rw [decide_eq_false z]; exact Bool.false_ne_true)])⟩
  exact wpAny_holding (wpAny_bind ((strKind P w).pyHash (strKind_is _ _ _ _) (wpAny_setAddHashed_of (knd := strKind P w) (s := { s with toks := s.toks + 1 }) (strKind_is _ _ _ _) rfl T.of room fun h' b q => k _ h' b (ends h' q))))
/-- the turns that put what a walk hands out; s0 is the state ahead of them -/
theorem put_turns {I : Addr} {fp wr : List Addr} {G : Array GenState → Array GenState → Prop} {Pv : Nat → Value → Prop} {St : Nat → Shared → Prop} {R : Result → Shared → Prop} {xs : List Str} {s0 : Shared} (W : WalksS P w A.in1 I fp wr G xs.length Pv St) (fresh : S ∉ fp) (room : xs.length + 1 < scanBound)
    (val : ∀ i v, Pv i v → ∃ u, v = .str (xs.getD i Str.empty) u) (fin : ∀ s', Moved (S :: wr) G s0 s' → TxtSet P w s'.heap S (ddL xs) → R (.ok (.ret .none)) s') :
    ∀ (d i : Nat), i + d = xs.length → ∀ s, Moved (S :: wr) G s0 s → St i s → TxtSet P w s.heap S (ddL (xs.take i)) → codeAny (model P w) A (.builtin "set.update.loop" ⟨[.ref S, .ref I], []⟩) R s := by
  have out : S ∉ wr := fun z => fresh (W.sub S z)
  have wide : ∀ {a b : Shared}, Moved wr G a b → Moved (S :: wr) G a b := fun q => q.mono fun b hb => List.mem_cons_of_mem S hb
  have still : ∀ {a b : Shared} {m : List Str}, Moved wr G a b → TxtSet P w a.heap S m → TxtSet P w b.heap S m := fun q T => T.stay fun o ho => q.heap S o out ho
  intro d
  induction d with
  | zero =>
    intro i hi s go at_ T
    obtain rfl : i = xs.length := by omega
    rw [List.take_length] at T
    refine codeAny_builtin F.entry_set_update_loop (Around.under_plainId F.plain_set_update_loop _ ▸ ?_)
    exact wpAny_bind (m := pyNext (.ref I)) (W.done s _ _ at_ fun s' q => wpAny_pure (fin s' (go.trans W.gtrans (wide q)) (still q T)))
  | succ d ih =>
    intro i hi s go at_ T
    have lt : i < xs.length := by omega
    have few := ddL_len (xs.take i)
    rw [List.length_take] at few
    refine codeAny_builtin F.entry_set_update_loop (Around.under_plainId F.plain_set_update_loop _ ▸ ?_)
    refine wpAny_bind (m := pyNext (.ref I)) (W.item i s _ _ lt at_ fun v s1 pv at1 q => ?_)
    obtain ⟨u, rfl⟩ := val i v pv
    refine wpAny_bind (m := holding _ (setAdd S _)) (wpAny_holding ((still q T).put (by omega) fun b h2 same T2 => ?_))
    rw [← ddL_step lt] at T2
    refine wpAny_pure ⟨plainId_quiet F.plain_set_update_loop _, ih (i + 1) (by omega) _ ?_ (W.frame _ s1 _ _ at1 (Nat.le_succ _) fun b hb o e => ?_) T2⟩
    · refine go.trans W.gtrans ((wide q).then_heap (Nat.le_succ _) fun b o nb e => ?_)
      rw [same.2 b fun z => nb (z ▸ List.mem_cons_self)]
      exact e
    · rw [same.2 b fun z => fresh (z ▸ hb)]
      exact e
end
section
variable {P : Program} {w : World} {A : Around} {E : Value → Shared → Prop} {s : Shared}
/-- T(..), told by what its __new__ and its __init__ do -/
theorem type_made {T ni ii : String} {args : List Value} {Q mid : Value → Shared → Prop} (B : TypeCalled T ni ii) (ok : checkTypeCall T ⟨args, []⟩ = pure ()) (new : codeAny (model P w) A.in1 (.call (.builtin ni) ⟨.type T :: args, []⟩) (wants mid E) s)
    (init : ∀ o s1, mid o s1 → codeAny (model P w) A.in1 (.call (.builtin ii) ⟨o :: args, []⟩) (wants (fun r s2 => r = .none ∧ Q o s2) E) s1) (kind : ∀ o s1, mid o s1 → s1.TypeIs o T) : wpAny (model P w) A (call (.type T) args) Q E s := by
  rcases B with ⟨nt, cc, ⟨c, tl, mro⟩, mk, _, sb, ini⟩
  refine wpAny_call (codeAny_of_tree ?_)
  change wpAny _ _ (callAny (Value.type T) _) _ _ s
  refine wpAny_pure ⟨Code.quiet_builtin _ (by decide +kernel), ?_⟩
  refine codeAny_builtin PySem.F.entry_type_call (Around.under_plain (weight_type_call_type T args []) rfl ▸ ?_)
  repeat (any_goals (first | assumption | wp_step))
  refine codeAny_mono new ?_
  rintro (e | fl) s1 h1
  · exact h1
  cases fl
  case ret o =>
    have ty := kind o s1 h1
    have look := ini.lookup
    have bd := ini.bind o
    repeat (any_goals (first | assumption | wp_step))
    refine codeAny_mono (init o s1 h1) ?_
    rintro (e | fl) s2 h2
    · exact h2
    cases fl
    case ret r =>
      rcases h2 with ⟨rfl, hQ⟩
      repeat (any_goals (first | assumption | wp_step))
    all_goals exact h2.elim
  all_goals exact h1.elim
abbrev bareSet (led : Bool) : Obj := { cls := .type "set", dict := none, data := .set #[] 0 (.fresh 0 0 led) }
/-- set.__init__ of a bare set that was just made, over a list of texts -/
theorem fill_texts {l : Addr} {items : Array Value} {xs : List Str} {led : Bool} {Q : Shared → Prop} (calm : A.handled = none) (L : s.heap.IsList l items) (T : StrsAre items.toList xs) (room : xs.length + 1 < scanBound)
    (k : ∀ h' n, TxtSet P w h' s.heap.objs.size (ddL xs) → (∀ b o, s.heap.get? b = some o → h'.get? b = some o) → Q { s with heap := h', toks := n }) :
    codeAny (model P w) A (.call (.builtin "set.__init__") ⟨[.ref s.heap.objs.size, .ref l], []⟩) (wants (fun r s2 => r = .none ∧ Q s2) E) { s with heap := s.heap.push (bareSet led) } := by
  have made : (s.heap.push (bareSet led)).get? s.heap.objs.size = some (bareSet led) := Heap.get?_push_size _ rfl
  have kind : Shared.TypeIs { s with heap := s.heap.push (bareSet led) } (.ref s.heap.objs.size) "set" := ⟨_, made, rfl⟩
  refine codeAny_call_builtin PySem.F.called_set.init.plain PySem.F.entry_set_init (check_set_init_1 kind ?_)
  have L1 := L.push (bareSet led)
  obtain ⟨⟨cl, dc, da, sl⟩, there, rfl, z, rfl⟩ := id L1
  have s1 := PySem.F.sub_list_set
  have s2 := PySem.F.sub_list_frozenset
  have s3 : (Value.type "list" == Value.type "dict") = false := by decide
  unfold Builtin.«set.__init__» noKeywords Builtin.Frozenset.updateFrom
  generalize hI : pyIter = it
  wp_walk
  subst hI
  have here : l < s.heap.objs.size := (Heap.lt_size (show s.heap.get? l = some _ from L.choose_spec.1))
  have size1 : (s.heap.push (bareSet led)).objs.size = s.heap.objs.size + 1 := Heap.size_push _ _
  have apart : l ≠ (s.heap.push (bareSet led)).objs.size := by rw [size1]; exact Nat.ne_of_lt (Nat.lt_succ_of_lt here)
  have fresh : s.heap.objs.size ∉ [(s.heap.push (bareSet led)).objs.size, l] := by
    rw [size1]
    intro q
    rcases List.mem_cons.mp q with q | q
    · exact absurd q (Nat.ne_of_lt (Nat.lt_succ_self _))
    · exact absurd (List.mem_singleton.mp q) (Nat.ne_of_gt here)
  have long : items.size = xs.length := by rw [← StrsAre.len_eq T, Array.length_toList]
  have quiet : A.in1.in1.handled = none := by simp [calm]
  have W := (Walks.list (prog := P) (w := w) (A := A.in1.in1) quiet _ l apart items).toS
  rw [long] at W
  refine wpAny_pyIter_list L1 (wpAny_bind (wpAny_runValue ?_))
  have none0 : TxtSet P w ((s.heap.push (bareSet led)).push { cls := .type "list_iterator", data := .fields #[.ref l, .int 0 0] }) s.heap.objs.size (ddL (xs.take 0)) :=
    ⟨SetOf_congr ((setObjOf_fresh (knd := strKind P w) led).setOf (Heap.get?_push_of_some _ made) (by unfold scanBound; omega)) (fun _ => rfl) rfl⟩
  refine put_turns W fresh room (fun i v hv => SS.strs_at T i v (by rw [Array.getElem?_toList]; exact hv)) ?_ xs.length 0 (Nat.zero_add _) _ ⟨fun _ _ _ e => e, W.grefl _, rfl, rfl, Nat.le_refl _⟩ ⟨⟨_, Heap.get?_push_size _ rfl, rfl, rfl⟩, L1.push _⟩ none0
  rintro ⟨h3, g3, d3, n3, o3⟩ go T3
  obtain rfl : g3 = s.gens := go.gens
  obtain rfl : d3 = s.drawn := go.drawn
  obtain rfl : o3 = s.os := go.os
  refine wpAny_pure ?_
  change wpAny _ _ (ret Value.none) _ _ _
  refine wpAny_pure ⟨rfl, k h3 n3 T3 fun b o e => ?_⟩
  have old := Heap.lt_size e
  refine go.heap b o (fun q => ?_) (Heap.get?_push_of_some _ (Heap.get?_push_of_some _ e))
  rcases List.mem_cons.mp q with q | q
  · exact absurd q (Nat.ne_of_lt old)
  · rw [List.mem_singleton.mp q, size1] at old
    exact absurd old (Nat.not_lt.mpr (Nat.le_succ _))
theorem set_texts {l : Addr} {items : Array Value} {xs : List Str} {Q : Value → Shared → Prop} (calm : A.handled = none) (L : s.heap.IsList l items) (T : StrsAre items.toList xs) (room : xs.length + 1 < scanBound)
    (k : ∀ a h' n, TxtSet P w h' a (ddL xs) → (∀ b o, s.heap.get? b = some o → h'.get? b = some o) → Q (.ref a) { s with heap := h', toks := n }) : wpAny (model P w) A (call (.type "set") [.ref l]) Q E s := by
  refine type_made PySem.F.called_set (PySem.F.typeCall_set_1 _) (mid := fun o s1 => ∃ led, o = .ref s.heap.objs.size ∧ s1 = { s with heap := s.heap.push (bareSet led) }) (code_set_new_1 _ fun led => ⟨led, rfl, rfl⟩) ?_ ?_
  · rintro o s1 ⟨led, rfl, rfl⟩
    exact fill_texts (A := A.in1) (Q := fun s2 => Q (.ref s.heap.objs.size) s2) (by simp [calm]) L T room (k _)
  · rintro o s1 ⟨led, rfl, rfl⟩
    exact ⟨_, Heap.get?_push_size _ rfl, rfl⟩
end
open L2
/-- len(set(xs)), xs a list of texts -/
def tLenSetT (K : PySem.W.Frag) (ta : TE) : TE := fun σ H Q => ta σ H fun x H1 => ∃ l, ∃ xs : List Str, x = .ref l ∧ SqL K H1 l (xs.map V.str) ∧ xs.length ≤ 1000 ∧ Q (.int (ddL xs).length) H1
theorem pe_lenSetT {X : Cx} {a : Expr} {ta : TE} {p p2 q pos : Pos} (calm : X.calm = true) (gl : Gl X "len") (ml : X.mg "len" = none) (gs : Gl X "set") (ms : X.mg "set" = none) (ha : PE X a ta)
    (na : starEach [a] X.env = (false, eval a X.env) :: starEach [] X.env := by rfl) : PE X (.Call (.Name "len" p) [.Call (.Name "set" p2) [a] [] q] [] pos) (tLenSetT X.K ta) := by
  constructor
  intro pins s σ H Q I h
  refine Call_ (ld_blt I gl ml boot_len (callWith_builtin1 (args_cons ?_ rfl) rfl rfl))
  refine Call_ (ld_blt I gs ms boot_set (callWith_type1 (args_cons (thn (ha.run pins s σ H _ I h) ?_) na) na rfl))
  rintro v s1 ⟨x, H1, I1, rel, l, xs, rfl, sq, few, hQ⟩
  cases rel
  obtain ⟨its, vals, L, _⟩ := I1.list sq
  refine args_nil (set_texts (I1.ok.hd calm) L.isList (by simpa using strsAre_of vals) (by unfold scanBound; omega) fun b h' n T kept => args_nil ?_)
  have I2 : Inv X pins σ H1 { s1 with heap := h', toks := n } := I1.kept kept
  obtain ⟨⟨o, es, ep, tb, ho, ex, da, _, _, _, fits, size⟩⟩ := T
  have fewS := ddL_len xs
  refine call_len_set ho ex da fits (by rw [size] <;> omega) ⟨.int (ddL xs).length, H1, I2.tok _, ⟨_, by rw [size]⟩, hQ⟩
end Rv

namespace Rv
open PySem L2
open SX (S S_inj S_len S_cat join_S num_S S_tl lens split_S int_S)
/-! ### numbers written plainly -/
theorem numL_of {w : List Nat} (hd : ∀ x ∈ w, x ∈ figL) (hne : w ≠ []) (hz : w.length ≤ 1 ∨ w[0]? ≠ some 48) : w = TL.numL (NumText.digitsVal w) := by
  have hd' : NumText.AllDigits w := fun x hx => fig_mem.mp (hd x hx)
  obtain ⟨n, hn⟩ : ∃ n, w.length = n + 1 := by
    cases w with
    | nil => exact absurd rfl hne
    | cons c r => exact ⟨r.length, rfl⟩
  have h := NumText.toDigits_digitsVal n w hn hd' (by
    rcases hz with h | h
    · exact .inl (by omega)
    · cases w with
      | nil => exact absurd rfl hne
      | cons c r =>
        refine .inr ⟨c, r, rfl, ?_⟩
        have h1 := (fig_mem.mp (hd c List.mem_cons_self)).1
        have h2 : c ≠ 48 := fun e => h (by rw [e]; rfl)
        omega)
  show w = (Nat.toDigits 10 (NumText.digitsVal w)).map Char.toNat
  rw [h, List.map_map]
  refine (List.map_id w).symm.trans (List.map_congr_left fun x hx => ?_)
  have := fig_mem.mp (hd x hx)
  show x = (Char.ofNat x).toNat
  have hv : x.isValidChar := .inl (by omega)
  rw [Char.ofNat, dif_pos hv]
  rfl
theorem numL_head : ∀ {n : Nat}, 1 < (TL.numL n).length → (TL.numL n)[0]? ≠ some 48 := by
  intro n
  induction n using Nat.strongRecOn with
  | ind n ih =>
    intro h
    by_cases hn : n < 10
    · rw [TL.numL_lt hn] at h
      exact absurd h (Nat.lt_irrefl 1)
    · rw [TL.numL_step (by omega)]
      by_cases h1 : 1 < (TL.numL (n / 10)).length
      · rw [List.getElem?_append_left (by omega)]
        exact ih (n / 10) (by omega) h1
      · have h2 : n / 10 < 10 := by
          refine Nat.lt_of_not_le fun z => h1 ?_
          rw [TL.numL_step z, List.length_append]
          have := TL.numL_ne (n / 10 / 10)
          have : 0 < (TL.numL (n / 10 / 10)).length := List.length_pos_iff.mpr this
          show 1 < _ + 1
          omega
        rw [TL.numL_lt h2]
        show some (48 + n / 10) ≠ some 48
        intro e
        have := Option.some.inj e
        omega
/-! ### how long a joined text is -/
def tot (ps : List (List Nat)) : Nat := (ps.map List.length).sum + ps.length
theorem tot_cons (p : List Nat) (ps : List (List Nat)) : tot (p :: ps) = p.length + tot ps + 1 := by
  unfold tot
  rw [List.map_cons, List.sum_cons, List.length_cons]
  omega
theorem tot_app (ps qs : List (List Nat)) : tot (ps ++ qs) = tot ps + tot qs := by
  unfold tot
  rw [List.map_append, List.sum_append, List.length_append]
  omega
theorem joinL_tot (s : Nat) : ∀ {ps : List (List Nat)}, ps ≠ [] → (TL.joinL [s] ps).length + 1 = tot ps
  | [], h => absurd rfl h
  | [p], _ => by
    show p.length + 1 = _
    rw [tot_cons]
    rfl
  | p :: q :: ps, _ => by
    have ih := joinL_tot s (ps := q :: ps) (by simp)
    rw [tot_cons]
    show (p ++ ([s] ++ TL.joinL [s] (q :: ps))).length + 1 = _
    rw [List.length_append, List.length_append]
    show p.length + (1 + (TL.joinL [s] (q :: ps)).length) + 1 = _
    omega
theorem tot_set : ∀ (ps : List (List Nat)) (i : Nat) (x : List Nat), tot (ps.set i x) ≤ tot ps + x.length
  | [], _, _ => by
    rw [List.set_nil]
    omega
  | p :: ps, 0, x => by
    rw [List.set_cons_zero, tot_cons, tot_cons]
    omega
  | p :: ps, i + 1, x => by
    have := tot_set ps i x
    rw [List.set_cons_succ, tot_cons, tot_cons]
    omega
theorem tot_spl (s : Nat) (z : List Nat) : tot (TL.spl [s] 0 [] z) = z.length + 1 := by
  rw [← joinL_tot s (spl1_ne s z []), spl1_join]
  rfl
theorem tot_take (ps : List (List Nat)) (i : Nat) : tot (ps.take i) + tot (ps.drop i) = tot ps := by
  rw [← tot_app, List.take_append_drop]
theorem len_tot {ps : List (List Nat)} {p : List Nat} (h : p ∈ ps) : p.length + 1 ≤ tot ps := by
  induction ps with
  | nil => cases h
  | cons q ps ih =>
    rw [tot_cons]
    rcases List.mem_cons.mp h with e | h
    · rw [e]
      omega
    · have := ih h
      omega
theorem tot_len (ps : List (List Nat)) : ps.length ≤ tot ps := by
  unfold tot
  omega
/-- all signs plain -/
def asc (z : List Nat) : Prop := ∀ x ∈ z, x < 128
theorem asc_app {x y : List Nat} (h1 : asc x) (h2 : asc y) : asc (x ++ y) := fun c hc => (List.mem_append.mp hc).elim (h1 c) (h2 c)
theorem asc_join {s : List Nat} (hs : asc s) : ∀ {ps : List (List Nat)}, (∀ p ∈ ps, asc p) → asc (TL.joinL s ps)
  | [], _ => fun c hc => by cases hc
  | [p], h => h p List.mem_cons_self
  | p :: q :: ps, h => asc_app (h p List.mem_cons_self) (asc_app hs (asc_join hs fun r hr => h r (List.mem_cons_of_mem _ hr)))
theorem asc_spl {s : Nat} {z : List Nat} (h : asc z) : ∀ p ∈ TL.spl [s] 0 [] z, asc p := fun p hp x hx => by
  rcases (spl1_mem s z [] p hp).2 x hx with z | z
  · cases z
  · exact h x z
theorem strOk_S {z : List Nat} (h : asc z) : PyData.strOk (S z) = true := by
  unfold PyData.strOk
  rw [← Array.all_toList]
  refine List.all_eq_true.mpr fun x hx => decide_eq_true ?_
  have : x < 128 := h x hx
  omega
theorem numL_asc (n : Nat) : asc (TL.numL n) := fun x hx => by
  have := TL.numL_digits n x hx
  omega
/-! ### lists of texts compared -/
theorem eqvAll_str : ∀ xs ys : List Str, PyData.eqvAll (xs.map PyData.str) (ys.map PyData.str) = decide (xs = ys)
  | [], [] => by simp [PyData.eqvAll]
  | [], y :: ys => by simp [PyData.eqvAll]
  | x :: xs, [] => by simp [PyData.eqvAll]
  | x :: xs, y :: ys => by
    rw [List.map_cons, List.map_cons]
    simp only [PyData.eqvAll]
    rw [eqvAll_str xs ys, eqv_str]
    by_cases h1 : x = y
    · by_cases h2 : xs = ys
      · simp [h1, h2]
      · simp [h1, h2]
    · simp [h1]
theorem map_dV_str (xs : List Str) : (xs.map V.str).map dV = xs.map PyData.str := by
  rw [List.map_map]
  rfl
theorem laid_strQ {xs : List Str} (h : ∀ x ∈ xs, PyData.strOk x = true) : laid (.list (xs.map PyData.str)) 1 := laid_list fun d hd => by
  obtain ⟨x, hx, rfl⟩ := List.mem_map.mp hd
  exact ⟨by simp only [PyData.canLay0, h x hx], by simp only [PyData.depth]; exact Nat.le_refl _⟩
theorem k_neStrs {K : PySem.W.Frag} {H : Hp} {Q : VK} {p q : Addr} {xs ys : List Str} (h1 : SqL K H p (xs.map V.str)) (h2 : SqL K H q (ys.map V.str)) (ok1 : ∀ x ∈ xs, PyData.strOk x = true) (ok2 : ∀ x ∈ ys, PyData.strOk x = true) (k : Q (.bl (!decide (xs = ys))) H) : rNeD K (.ref p) (.ref q) H Q := by
  have d1 := dp_listF h1 (all_flat_str xs)
  have d2 := dp_listF h2 (all_flat_str ys)
  rw [map_dV_str] at d1 d2
  refine ⟨_, _, d1, d2, laid_shaped (laid_strQ ok1) (by decide), laid_shaped (laid_strQ ok2) (by decide), ?_⟩
  have e : PyData.eqv (.list (xs.map PyData.str)) (.list (ys.map PyData.str)) = decide (xs = ys) := by
    rw [← eqvAll_str]
    simp only [PyData.eqv]
  rw [e]
  exact k
/-! ### lists of rights compared -/
theorem eqvAll_rts : ∀ xs ys : List Rw, PyData.eqvAll (xs.map encF) (ys.map encF) = decide (xs = ys)
  | [], [] => by simp [PyData.eqvAll]
  | [], y :: ys => by simp [PyData.eqvAll]
  | x :: xs, [] => by simp [PyData.eqvAll]
  | x :: xs, y :: ys => by
    rw [List.map_cons, List.map_cons]
    simp only [PyData.eqvAll]
    rw [eqvAll_rts xs ys, encF_eqv]
    by_cases h1 : x = y
    · by_cases h2 : xs = ys
      · simp [h1, h2]
      · simp [h1, h2]
    · simp [h1]
theorem k_eqRtsD {K : PySem.W.Frag} {H : Hp} {Q : VK} {p q : Addr} {R T : List Rw} (h1 : RtsAt H p R) (h2 : RtsAt H q T) (ok1 : ∀ w ∈ R, PyData.strOk w.n = true) (ok2 : ∀ w ∈ T, PyData.strOk w.n = true) (k : Q (.bl (decide (R = T))) H) : rEqD K (.ref p) (.ref q) H Q := by
  obtain ⟨xs, hx, px⟩ := h1.ex
  obtain ⟨ys, hy, py⟩ := h2.ex
  refine ⟨_, _, .lst (SqL.of hx) (dpAll_rts px), .lst (SqL.of hy) (dpAll_rts py), laid_shaped (laid_rts ok1) (by decide), laid_shaped (laid_rts ok2) (by decide), ?_⟩
  have e : PyData.eqv (.list (R.map encF)) (.list (T.map encF)) = decide (R = T) := by
    rw [← eqvAll_rts]
    simp only [PyData.eqv]
  rw [e]
  exact k
/-! ### rights read of lines -/
def okN (w : Rw) : Prop := okW w ∧ nameOk w.n.cps.toList
theorem line_inj {w u : Rw} (hw : okN w) (hu : okN u) (h : lineL w = lineL u) : w = u := by
  have e : wordsL w = wordsL u := by rw [← spl_line hw.2, ← spl_line hu.2, h]
  unfold wordsL at e
  injection e with e0 e
  injection e with e1 e
  injection e with e2 e
  injection e with e3 e
  injection e with e4 e
  injection e with e5 e
  injection e with e6 e
  have n := str_ext e0
  have p := TL.numL_inj e2
  have a := TL.numL_inj e4
  have d := TL.numL_inj e6
  have wa := hw.1.a0
  have ua := hu.1.a0
  have wd := hw.1.d0
  have ud := hu.1.d0
  have a' : w.a = u.a := by omega
  have d' : w.d = u.d := by omega
  cases w
  cases u
  simp only at n p a' d'
  rw [n, p, a', d']
theorem lines_inj : ∀ {L M : List Rw}, (∀ w ∈ L, okN w) → (∀ w ∈ M, okN w) → L.map lineL = M.map lineL → L = M
  | [], [], _, _, _ => rfl
  | [], _ :: _, _, _, h => by cases h
  | _ :: _, [], _, _, h => by cases h
  | w :: L, u :: M, hL, hM, h => by
    rw [List.map_cons, List.map_cons] at h
    injection h with h1 h2
    rw [line_inj (hL w List.mem_cons_self) (hM u List.mem_cons_self) h1, lines_inj (fun x hx => hL x (List.mem_cons_of_mem _ hx)) (fun x hx => hM x (List.mem_cons_of_mem _ hx)) h2]
theorem head_inj {B C : List Nat} (h : headL B = headL C) : B = C := by
  have e : (riverL :: [45] :: B.map TL.numL) = (riverL :: [45] :: C.map TL.numL) := by rw [← spl_head B, ← spl_head C, h]
  injection e with _ e
  injection e with _ e
  have := congrArg (List.map NumText.digitsVal) e
  rw [List.map_map, List.map_map] at this
  have hid : ∀ l : List Nat, l.map (NumText.digitsVal ∘ TL.numL) = l := fun l => (List.map_congr_left fun x _ => TL.numL_val x).trans (List.map_id l)
  rw [hid, hid] at this
  exact this
end Rv

section
namespace Rv
open PySem L2
open SX (S S_inj S_len S_cat join_S num_S S_tl lens split_S int_S)
/-! ### a comprehension over a text -/
section
variable {K : PySem.W.Frag} {σ : L2.St} {H : Hp} {Q : VK} {te : TE} {tt : TT} {vs : List Nat}
theorem walk_strA {z : List Nat} : Walk (Its (S z)) z.length (fun _ => True) (YAt (z.map fun x => V.str ⟨#[x]⟩)) := by
  have h := walk_str (z := S z)
  rw [show (S z).cps.size = z.length from S_len z] at h
  refine Walk.mono h (fun _ h => h) fun i H x H' hi _ y => ?_
  obtain ⟨e, c, hc, y⟩ := y
  refine ⟨e, ?_⟩
  subst y
  have hc' : z[i]? = some c := by
    rw [← hc]
    show z[i]? = z.toArray[i]?
    simp
  rw [List.getElem?_map, hc']
  rfl
theorem k_lcS {z : List Nat} (p : Nat → Bool) (G : Nat → V) {j : Nat} (hw : ∀ x, wipe ((wipe σ vs).set j (some x)) vs = wipe σ vs) (hlen : z.length ≤ 100000)
    (turn : ∀ x ∈ z, ∀ H1, Ac H H1 → ∀ QB : Bool → Hp → Prop, (∀ H2, Ext H1 H2 → QB (p x) H2) → tt ((wipe σ vs).set j (some (.str ⟨#[x]⟩))) H1 QB)
    (elt : ∀ x ∈ z, p x = true → ∀ H1, Ac H H1 → ∀ Q1 : VK, (∀ H2, Ext H1 H2 → Q1 (G x) H2) → te ((wipe σ vs).set j (some (.str ⟨#[x]⟩))) H1 Q1)
    (fin : ∀ D H', H D = none → Ext H H' → H' D = some (.lst ((z.filter p).map G)) → Q (.ref D) H') : kLc (gName j) tt te vs σ Q (Its (S z)) H :=
  lc_gen z (fun x => V.str ⟨#[x]⟩) p G (fun _ v b => v = b) walk_strA (fun _ _ => trivial) (fun _ _ _ _ _ h => h) hw hlen turn
    (fun x hx hp H1 e Q1 q => elt x hx hp H1 e Q1 fun H2 e2 => q _ H2 e2 rfl)
    (fun D ws H' hD e hws pr => fin D H' hD e (by rw [hws, paired_eq (f := fun v => v) pr, List.map_id']))
end
theorem filter_nil {z : List Nat} {p : Nat → Bool} : (z.filter p).length = 0 ↔ ∀ x ∈ z, p x = false := by
  rw [List.length_eq_zero_iff, List.filter_eq_nil_iff]
  constructor
  · intro h x hx
    cases hp : p x with
    | false => rfl
    | true => exact absurd hp (h x hx)
  · intro h x hx z
    rw [h x hx] at z
    cases z
/-! ### the law's own reading -/
def sp_l_number (c : Cs) : Sp := fun vs H Q E => ∃ w most, vs = [.str (S w), .int most] ∧ w.length ≤ 900 ∧ (∀ n : Nat, w = TL.numL n → w.length ≤ 7 → (n : Int) ≤ most → Q (.int (n : Int)) H) ∧ ((∀ n : Nat, w = TL.numL n → w.length ≤ 7 → ¬ (n : Int) ≤ most) → Q (.int (-1)) H)
def sp_l_right_line (c : Cs) : Sp := fun vs H Q E => ∃ z pts, vs = [.str (S z), .int pts] ∧ z.length ≤ 900 ∧ asc z ∧ pts ≤ 40 ∧
  (∀ w, z = lineL w → okN w → (w.p : Int) < pts → ∀ t H', Ext H H' → H' t = some (.tup [.str w.n, nV w.p, .int w.a, .int w.d]) → Q (.ref t) H') ∧
  ((∀ w, z = lineL w → okN w → ¬ (w.p : Int) < pts) → ∀ H', Ext H H' → Q .non H')
def sp_l_good (c : Cs) : Sp := fun vs H Q E => ∃ z, vs = [.str (S z)] ∧ z.length ≤ 900 ∧ asc z ∧ (Good z → ∀ H', Ext H H' → Q (.bl true) H') ∧ (¬ Good z → ∀ H', Ext H H' → Q (.bl false) H')
/-- what the law's own number tells -/
def numV (w : List Nat) (most r : Int) : Prop := (∃ n : Nat, w = TL.numL n ∧ w.length ≤ 7 ∧ (n : Int) ≤ most ∧ r = (n : Int)) ∨ (r = -1 ∧ ∀ n : Nat, w = TL.numL n → w.length ≤ 7 → ¬ (n : Int) ≤ most)
theorem k_numV {c : Cs} {w : List Nat} {most : Int} {H : Hp} {Q : VK} {E : XK} (hw : w.length ≤ 900) (q : ∀ r, numV w most r → Q (.int r) H) : sp_l_number c [.str (S w), .int most] H Q E :=
  ⟨w, most, rfl, hw, fun n e l m => q _ (.inl ⟨n, e, l, m, rfl⟩), fun h => q _ (.inr ⟨rfl, h⟩)⟩
theorem k_inT {K : PySem.W.Frag} {x : V} {t : Addr} {xs : List V} {H : Hp} {Q : VK} (h : H t = some (.tup xs)) (hx : flatV x = true) (hf : xs.all flatV = true) (q : Q (.bl (inV x xs)) H) : rIn K false x (.ref t) H Q := ⟨t, xs, rfl, .inr (SqT.of h), hx, hf, q⟩
theorem inV_m1 (n : Str) (a b d : Int) : inV (.int (-1)) [.str n, .int a, .int b, .int d] = decide (a = -1 ∨ b = -1 ∨ d = -1) := by
  have e : inV (.int (-1)) [.str n, .int a, .int b, .int d] = (false || ((a == -1) || ((b == -1) || ((d == -1) || false)))) := rfl
  rw [e, Bool.or_false, Bool.false_or]
  by_cases h1 : a = -1
  · simp [h1]
  · by_cases h2 : b = -1
    · simp [h2]
    · by_cases h3 : d = -1
      · simp [h3]
      · simp [h1, h2, h3]
theorem zeroS : Str.ofString "0" = S [48] := by decide +kernel
theorem emptyS : Str.ofString "" = S [] := by decide +kernel
end Rv
local macro_rules | `(tactic| lcg_src) => `(tactic| first
  | assumption
  | (with_reducible exact Rv.lk_here)
  | (refine (Rv.lk_past (by decide +kernel)).trans ?_; lcg_src)
  | (with_unfolding_all exact rfl))
local macro_rules | `(tactic| keq_hits) => `(tactic| first
  | assumption
  | ((with_reducible apply Rv.Ext.hl); (focus assumption); (focus keq_hits))
  | ((with_reducible apply Rv.But.hl); (focus assumption); (focus keq_hits); (focus keq_hits))
  | ((with_reducible apply Rv.Ac.hl); (focus assumption); (focus keq_hits))
  | ((with_reducible apply L2.SqL.of); (focus assumption))
  | ((with_reducible apply Rv.Ext.sq); (focus assumption); (focus keq_hits))
  | ((with_reducible apply Rv.But.sq); (focus assumption); (focus keq_hits); (focus keq_hits))
  | ((with_reducible apply Rv.Ac.sq); (focus assumption); (focus keq_hits))
  | ((with_reducible apply L2.SqT.of); (focus assumption))
  | ((with_reducible apply Rv.Ext.st); (focus assumption); (focus keq_hits))
  | ((with_reducible apply Rv.But.st); (focus assumption); (focus keq_hits); (focus keq_hits))
  | ((with_reducible apply Rv.Ac.st); (focus assumption); (focus keq_hits))
  | ((with_reducible apply L2.Rd.of); (focus keq_hits))
  | ((with_reducible apply Rv.RivAt.ext); (focus assumption); (focus keq_hits))
  | ((with_reducible apply Rv.RivAt.but); (focus assumption); (focus keq_hits); (focus keq_hits); (focus keq_hits))
  | ((with_reducible apply Rv.RivAt.ac); (focus assumption); (focus keq_hits))
  | (with_reducible apply Rv.nin_nil)
  | ((with_reducible apply Rv.BokAt.ext); (focus assumption); (focus keq_hits))
  | ((with_reducible apply Rv.DicAt.ne); (focus assumption); (focus assumption); (focus (intro _ z; cases z)))
  | ((with_reducible apply Rv.DicAt.nf); (focus assumption); (focus assumption))
  | ((with_reducible apply Rv.Ext.tup); (focus assumption))
  | ((with_reducible apply Rv.Ac.tup); (focus assumption))
  | ((with_reducible apply Rv.nin_cons); (focus keq_hits); (focus keq_hits))
  | (with_reducible apply Rv.frs_nil)
  | ((with_reducible apply Rv.frs_cons); (focus keq_hits); (focus keq_hits))
  | ((with_reducible apply Ne.symm); (focus assumption))
  | ((with_reducible apply Rv.ne_nf); (focus assumption); (focus assumption))
  | ((with_reducible apply Rv.ne_fn); (focus assumption); (focus assumption))
  | ((with_reducible apply Rv.ne_k1); (focus assumption); (focus assumption); (focus (first | (intro z; cases z; done) | ((with_reducible apply Rv.ins_ne); intro z; cases z; done))))
  | ((with_reducible apply Rv.ne_k2); (focus assumption); (focus assumption); (focus (first | (intro z; cases z; done) | ((with_reducible apply Rv.ins_ne); intro z; cases z; done))))
  | ((with_reducible apply Rv.free2); (focus assumption); (focus assumption))
  | (with_reducible apply Rv.Ac.refl)
  | ((with_reducible apply Rv.Ac.step'); (focus assumption); (focus keq_hits))
  | ((with_reducible apply Rv.Ac.but'); (focus assumption); (focus keq_hits); (focus keq_hits))
  | (with_reducible apply Rv.Ext.refl)
  | ((with_reducible apply Rv.Ac.ext); (focus keq_hits))
  | ((with_reducible apply Rv.sz_le); first | omega | (simp only [List.length_cons, List.length_nil, List.length_map, List.length_append]; omega))
  | ((with_reducible apply Rv.sz_lt); first | omega | (simp only [List.length_cons, List.length_nil, List.length_map, List.length_append]; omega)))
local macro_rules | `(tactic| kln_le) => `(tactic| first
  | assumption
  | ((with_reducible apply Rv.Ext.hl); (focus assumption); (focus kln_le))
  | ((with_reducible apply Rv.But.hl); (focus assumption); (focus kln_le); (focus kln_le))
  | ((with_reducible apply Rv.Ac.hl); (focus assumption); (focus kln_le))
  | ((with_reducible apply L2.SqL.of); (focus assumption))
  | ((with_reducible apply Rv.Ext.sq); (focus assumption); (focus kln_le))
  | ((with_reducible apply Rv.But.sq); (focus assumption); (focus kln_le); (focus kln_le))
  | ((with_reducible apply Rv.Ac.sq); (focus assumption); (focus kln_le))
  | ((with_reducible apply L2.SqT.of); (focus assumption))
  | ((with_reducible apply Rv.Ext.st); (focus assumption); (focus kln_le))
  | ((with_reducible apply Rv.But.st); (focus assumption); (focus kln_le); (focus kln_le))
  | ((with_reducible apply Rv.Ac.st); (focus assumption); (focus kln_le))
  | ((with_reducible apply L2.Rd.of); (focus kln_le))
  | ((with_reducible apply Rv.RivAt.ext); (focus assumption); (focus kln_le))
  | ((with_reducible apply Rv.RivAt.but); (focus assumption); (focus kln_le); (focus kln_le); (focus kln_le))
  | ((with_reducible apply Rv.RivAt.ac); (focus assumption); (focus kln_le))
  | (with_reducible apply Rv.nin_nil)
  | ((with_reducible apply Rv.BokAt.ext); (focus assumption); (focus kln_le))
  | ((with_reducible apply Rv.DicAt.ne); (focus assumption); (focus keq_hits); (focus (intro _ z; cases z)))
  | ((with_reducible apply Rv.DicAt.nf); (focus assumption); (focus keq_hits))
  | ((with_reducible apply Rv.Ext.tup); (focus assumption))
  | ((with_reducible apply Rv.Ac.tup); (focus assumption))
  | ((with_reducible apply Rv.nin_cons); (focus kln_le); (focus kln_le))
  | (with_reducible apply Rv.frs_nil)
  | ((with_reducible apply Rv.frs_cons); (focus kln_le); (focus kln_le))
  | ((with_reducible apply Ne.symm); (focus assumption))
  | ((with_reducible apply Rv.ne_nf); (focus assumption); (focus keq_hits))
  | ((with_reducible apply Rv.ne_fn); (focus assumption); (focus keq_hits))
  | ((with_reducible apply Rv.ne_k1); (focus assumption); (focus keq_hits); (focus (first | (intro z; cases z; done) | ((with_reducible apply Rv.ins_ne); intro z; cases z; done))))
  | ((with_reducible apply Rv.ne_k2); (focus assumption); (focus keq_hits); (focus (first | (intro z; cases z; done) | ((with_reducible apply Rv.ins_ne); intro z; cases z; done))))
  | ((with_reducible apply Rv.free2); (focus assumption); (focus keq_hits))
  | (with_reducible apply Rv.Ac.refl)
  | ((with_reducible apply Rv.Ac.step'); (focus assumption); (focus kln_le))
  | ((with_reducible apply Rv.Ac.but'); (focus assumption); (focus kln_le); (focus kln_le))
  | (with_reducible apply Rv.Ext.refl)
  | ((with_reducible apply Rv.Ac.ext); (focus kln_le))
  | ((with_reducible apply Rv.sz_le); first | omega | (simp only [List.length_cons, List.length_nil, List.length_map, List.length_append]; omega))
  | ((with_reducible apply Rv.sz_lt); first | omega | (simp only [List.length_cons, List.length_nil, List.length_map, List.length_append]; omega)))
local macro_rules | `(tactic| lcg_sub) => `(tactic| first
  | assumption
  | ((with_reducible apply Rv.Ext.hl); (focus assumption); (focus lcg_sub))
  | ((with_reducible apply Rv.But.hl); (focus assumption); (focus lcg_sub); (focus lcg_sub))
  | ((with_reducible apply Rv.Ac.hl); (focus assumption); (focus lcg_sub))
  | ((with_reducible apply L2.SqL.of); (focus assumption))
  | ((with_reducible apply Rv.Ext.sq); (focus assumption); (focus lcg_sub))
  | ((with_reducible apply Rv.But.sq); (focus assumption); (focus lcg_sub); (focus lcg_sub))
  | ((with_reducible apply Rv.Ac.sq); (focus assumption); (focus lcg_sub))
  | ((with_reducible apply L2.SqT.of); (focus assumption))
  | ((with_reducible apply Rv.Ext.st); (focus assumption); (focus lcg_sub))
  | ((with_reducible apply Rv.But.st); (focus assumption); (focus lcg_sub); (focus lcg_sub))
  | ((with_reducible apply Rv.Ac.st); (focus assumption); (focus lcg_sub))
  | ((with_reducible apply L2.Rd.of); (focus lcg_sub))
  | ((with_reducible apply Rv.RivAt.ext); (focus assumption); (focus lcg_sub))
  | ((with_reducible apply Rv.RivAt.but); (focus assumption); (focus lcg_sub); (focus lcg_sub); (focus lcg_sub))
  | ((with_reducible apply Rv.RivAt.ac); (focus assumption); (focus lcg_sub))
  | (with_reducible apply Rv.nin_nil)
  | ((with_reducible apply Rv.BokAt.ext); (focus assumption); (focus lcg_sub))
  | ((with_reducible apply Rv.DicAt.ne); (focus assumption); (focus kln_le); (focus (intro _ z; cases z)))
  | ((with_reducible apply Rv.DicAt.nf); (focus assumption); (focus kln_le))
  | ((with_reducible apply Rv.Ext.tup); (focus assumption))
  | ((with_reducible apply Rv.Ac.tup); (focus assumption))
  | ((with_reducible apply Rv.nin_cons); (focus lcg_sub); (focus lcg_sub))
  | (with_reducible apply Rv.frs_nil)
  | ((with_reducible apply Rv.frs_cons); (focus lcg_sub); (focus lcg_sub))
  | ((with_reducible apply Ne.symm); (focus assumption))
  | ((with_reducible apply Rv.ne_nf); (focus assumption); (focus kln_le))
  | ((with_reducible apply Rv.ne_fn); (focus assumption); (focus kln_le))
  | ((with_reducible apply Rv.ne_k1); (focus assumption); (focus kln_le); (focus (first | (intro z; cases z; done) | ((with_reducible apply Rv.ins_ne); intro z; cases z; done))))
  | ((with_reducible apply Rv.ne_k2); (focus assumption); (focus kln_le); (focus (first | (intro z; cases z; done) | ((with_reducible apply Rv.ins_ne); intro z; cases z; done))))
  | ((with_reducible apply Rv.free2); (focus assumption); (focus kln_le))
  | (with_reducible apply Rv.Ac.refl)
  | ((with_reducible apply Rv.Ac.step'); (focus assumption); (focus lcg_sub))
  | ((with_reducible apply Rv.Ac.but'); (focus assumption); (focus lcg_sub); (focus lcg_sub))
  | (with_reducible apply Rv.Ext.refl)
  | ((with_reducible apply Rv.Ac.ext); (focus lcg_sub))
  | ((with_reducible apply Rv.sz_le); first | omega | (simp only [List.length_cons, List.length_nil, List.length_map, List.length_append]; omega))
  | ((with_reducible apply Rv.sz_lt); first | omega | (simp only [List.length_cons, List.length_nil, List.length_map, List.length_append]; omega)))
local macro_rules | `(tactic| lcg_off) => `(tactic| first
  | (with_reducible apply Rv.r_seq)
  | (with_reducible apply Rv.r_asg)
  | (with_reducible apply Rv.r_op)
  | ((with_reducible apply Rv.r_var); (focus with_unfolding_all rfl))
  | (with_reducible apply Rv.r_c)
  | (with_reducible apply Rv.r_if)
  | (with_reducible apply Rv.r_test)
  | (with_reducible apply Rv.r_fld)
  | (with_reducible apply Rv.r_cons)
  | (with_reducible apply Rv.r_nil)
  | (with_reducible apply Rv.r_ret)
  | (with_reducible apply Rv.r_drop)
  | (with_reducible apply Rv.r_meth)
  | (with_reducible apply Rv.r_fn)
  | (with_reducible apply Rv.r_CB)
  | (with_reducible apply Rv.r_BM)
  | (with_reducible apply Rv.r_BM0)
  | (with_reducible apply Rv.k_bl)
  | (with_reducible apply Rv.r_not)
  | (with_reducible apply Rv.r_and)
  | (with_reducible apply Rv.r_or)
  | (with_reducible apply Rv.k_andT)
  | (with_reducible apply Rv.k_andF)
  | (with_reducible apply Rv.k_orT)
  | (with_reducible apply Rv.k_orF)
  | (with_reducible apply Rv.r_tB)
  | (with_reducible apply Rv.r_chain)
  | (with_reducible apply Rv.r_un)
  | (with_reducible apply Rv.r_tup)
  | (with_reducible apply Rv.r_lst)
  | (with_reducible apply Rv.r_andV)
  | (with_reducible apply Rv.r_orV)
  | (with_reducible apply Rv.r_notV)
  | (with_reducible apply Rv.r_ifE)
  | (with_reducible apply Rv.k_notV)
  | (with_reducible apply Rv.k_andVT)
  | (with_reducible apply Rv.k_andVF)
  | (with_reducible apply Rv.k_orVT)
  | (with_reducible apply Rv.k_orVF)
  | (with_reducible apply Rv.k_addI)
  | (with_reducible apply Rv.k_subI)
  | ((with_reducible apply Rv.k_mulI); (focus (unfold L2.CMul; omega)))
  | ((with_reducible apply Rv.k_divI); (focus (unfold L2.CDiv; omega)))
  | ((with_reducible apply Rv.k_modI); (focus omega))
  | ((with_reducible apply Rv.k_powI); (focus (unfold L2.CPow; decide)))
  | (with_reducible apply Rv.k_negI)
  | (with_reducible apply Rv.k_ltI)
  | (with_reducible apply Rv.k_leI)
  | (with_reducible apply Rv.k_gtI)
  | (with_reducible apply Rv.k_geI)
  | (with_reducible apply Rv.k_eqI)
  | (with_reducible apply Rv.k_neI)
  | (with_reducible apply Rv.k_eqS)
  | (with_reducible apply Rv.k_neS)
  | (with_reducible apply Rv.k_isNN)
  | (with_reducible apply Rv.k_isNI)
  | (with_reducible apply Rv.k_isNR)
  | (with_reducible apply Rv.k_notNN)
  | (with_reducible apply Rv.k_notNI)
  | (with_reducible apply Rv.k_notNR)
  | ((with_reducible apply Rv.k_tyL); (focus lcg_sub))
  | ((with_reducible apply Rv.k_ixT); (focus lcg_sub); (focus with_unfolding_all rfl))
  | ((with_reducible apply Rv.k_ixL); (focus lcg_sub); (focus with_unfolding_all rfl))
  | ((with_reducible apply Rv.k_lenL); (focus lcg_sub))
  | ((with_reducible apply Rv.k_lenU); (focus lcg_sub))
  | ((with_reducible apply Rv.k_tup); (focus lcg_sub))
  | ((with_reducible apply Rv.k_lst); (focus lcg_sub))
  | ((with_reducible apply Rv.k_list); (focus lcg_sub))
  | ((with_reducible apply Rv.k_append); (focus lcg_sub); (focus lcg_sub))
  | ((with_reducible apply Rv.k_cat); (focus lcg_sub); (focus lcg_sub); (focus lcg_sub))
  | ((with_reducible apply Rv.k_clear); (focus lcg_sub))
  | (with_reducible apply Rv.k_int1)
  | (with_reducible apply Rv.k_max2)
  | (with_reducible apply Rv.k_min2)
  | (with_reducible apply Rv.k_str)
  | (with_reducible apply Rv.k_part)
  | (with_reducible apply Rv.r_M1)
  | (with_reducible apply Rv.r_dget)
  | (with_reducible apply Rv.r_din)
  | (with_reducible apply Rv.r_dnotin)
  | (with_reducible apply Rv.r_dget2)
  | (with_reducible apply Rv.r_sl)
  | (with_reducible apply Rv.r_nopart)
  | (with_reducible apply Rv.r_part)
  | (with_reducible apply Rv.r_for)
  | (with_reducible apply Rv.r_lc)
  | (with_reducible apply Rv.r_yes)
  | (with_reducible apply Rv.r_iList)
  | (with_reducible apply Rv.r_iRng1)
  | (with_reducible apply Rv.r_iRng2)
  | (with_reducible apply Rv.r_iZip)
  | (with_reducible apply Rv.r_iStr)
  | (with_reducible apply Rv.r_iKeys)
  | (with_reducible apply Rv.r_lstRg)
  | ((with_reducible apply Rv.k_itl); (focus lcg_sub))
  | ((with_reducible apply Rv.k_zip); (focus lcg_sub); (focus lcg_sub))
  | ((with_reducible apply Rv.k_rng1); (focus omega))
  | ((with_reducible apply Rv.k_rng2); (focus omega))
  | (with_reducible apply Rv.k_its)
  | (with_reducible apply Rv.r_retN)
  | (with_reducible apply Rv.r_next)
  | (with_reducible apply Rv.r_setF)
  | (with_reducible apply Rv.r_dput)
  | (with_reducible apply Rv.r_setI)
  | (with_reducible apply Rv.r_raise)
  | (with_reducible apply Rv.r_wF)
  | (with_reducible apply Rv.k_ifTT)
  | (with_reducible apply Rv.k_ifFF)
  | (with_reducible apply Rv.k_ifNT)
  | (with_reducible apply Rv.k_ifNF)
  | (with_reducible apply Rv.k_andNT)
  | (with_reducible apply Rv.k_andNF)
  | (with_reducible apply Rv.k_orNT)
  | (with_reducible apply Rv.k_orNF)
  | (with_reducible apply Rv.k_andVNT)
  | (with_reducible apply Rv.k_andVNF)
  | (with_reducible apply Rv.k_orVNT)
  | (with_reducible apply Rv.k_orVNF)
  | (with_reducible apply Rv.k_isB_ii)
  | (with_reducible apply Rv.k_isB_ib)
  | (with_reducible apply Rv.k_isB_bi)
  | (with_reducible apply Rv.k_isB_bb)
  | (with_reducible apply Rv.k_isB_ni)
  | (with_reducible apply Rv.k_isB_ss)
  | ((with_reducible apply Rv.k_isB_ll); (focus lcg_sub))
  | ((with_reducible apply Rv.k_isB_tt); (focus lcg_sub))
  | (with_reducible apply Rv.r_mk)
  | (with_reducible apply Rv.r_rg1)
  | (with_reducible apply Rv.k_rg1)
  | (with_reducible apply Rv.r_dpop1)
  | (with_reducible apply Rv.k_ifNNT)
  | (with_reducible apply Rv.k_ifNNF)
  | (with_reducible apply Rv.r_dropE)
  | (with_reducible apply Rv.r_dropR)
  | (with_reducible apply Rv.r_dropN)
  | (with_reducible apply Rv.r_dropM))
namespace Rv
open PySem L2
open SX (S S_inj S_len S_cat join_S num_S S_tl lens split_S int_S)
-- l_number: 0 word 1 most 2 sign
def t_l_number (c : Cs) (E : XK) : TS :=
  (tSeq (tIfS (tOr (tTest (tOp rEq (tVar 0) (tC (.str "")))) (tOr (tTest (tOp rGtI (tCB rLenT (tCons (tVar 0) tNil)) (tC (.int 7)))) (tAnd (tTest (tOp rGtI (tCB rLenT (tCons (tVar 0) tNil)) (tC (.int 1)))) (tTest (tOp rEq (tOp rIxS (tVar 0) (tC (.int 0))) (tC (.str "0"))))))) (tRet (tUn rNegI (tC (.int 1)))) tNext)
  (tSeq (tFor (iStr (tVar 0)) (gName 2)
  (tIfS (tTest (tOp rNotInS (tVar 2) (tC (.str "0123456789")))) (tRet (tUn rNegI (tC (.int 1)))) tNext))
  (tSeq (tIfS (tTest (tOp rGtI (tCB rIntS (tCons (tVar 0) tNil)) (tVar 1))) (tRet (tUn rNegI (tC (.int 1)))) tNext)
  (tRet (tCB rIntS (tCons (tVar 0) tNil))))))
-- l_right_line: 0 line 1 points 2 words 3 name 4 sign 5 found
def t_l_right_line (c : Cs) (E : XK) : TS :=
  (tSeq (tAsg (tM1 rSplit (tVar 0) (tC (.str " "))) (gName 2))
  (tSeq (tIfS (tOr (tTest (tOp rNe (tCB (rLenS c.K) (tCons (tVar 2) tNil)) (tC (.int 7)))) (tTest (tOp (rNeD c.K) (tLst (tCons (tOp (rIxL c.K) (tVar 2) (tC (.int 1))) (tCons (tOp (rIxL c.K) (tVar 2) (tC (.int 3))) (tCons (tOp (rIxL c.K) (tVar 2) (tC (.int 5))) tNil)))) (tLst (tCons (tC (.str "at")) (tCons (tC (.str "wants")) (tCons (tC (.str "since")) tNil))))))) (tRet (tC .non)) tNext)
  (tSeq (tAsg (tOp (rIxL c.K) (tVar 2) (tC (.int 0))) (gName 3))
  (tSeq (tIfS (tOr (tNot (tTest (tChain rLeI rLeI (tC (.int 1)) (tCB rLenT (tCons (tVar 3) tNil)) (tC (.int 8))))) (tTest (tOp rGtI (tCB (rLenS c.K) (tCons (tLc (iStr (tVar 3)) (gName 4) (tTest (tOp rNotInS (tVar 4) (tC (.str "abcdefghijklmnopqrstuvwxyz")))) (tVar 4) [4]) tNil)) (tC (.int 0))))) (tRet (tC .non)) tNext)
  (tSeq (tAsg (tTup (tCons (tVar 3) (tCons (tFn (sp_l_number c) (wF E) (tCons (tOp (rIxL c.K) (tVar 2) (tC (.int 2))) (tCons (tOp rSubI (tVar 1) (tC (.int 1))) tNil))) (tCons (tFn (sp_l_number c) (wF E) (tCons (tOp (rIxL c.K) (tVar 2) (tC (.int 4))) (tCons (tC (.int 1000000)) tNil))) (tCons (tFn (sp_l_number c) (wF E) (tCons (tOp (rIxL c.K) (tVar 2) (tC (.int 6))) (tCons (tC (.int 9999)) tNil))) tNil))))) (gName 5))
  (tSeq (tIfS (tTest (tOp (rIn c.K false) (tUn rNegI (tC (.int 1))) (tVar 5))) (tRet (tC .non)) tNext)
  (tRet (tVar 5))))))))
-- l_good: 0 text 1 lines 2 words 3 k 4 rights 5 line 6 names 7 right
def t_l_good (c : Cs) (E : XK) : TS :=
  (tSeq (tAsg (tM1 rSplit (tVar 0) (tC (.str "\n"))) (gName 1))
  (tSeq (tAsg (tM1 rSplit (tOp (rIxL c.K) (tVar 1) (tC (.int 0))) (tC (.str " "))) (gName 2))
  (tSeq (tIfS (tOr (tTest (tOp (rNeD c.K) (tSl (rSlL c.K) (tVar 2) tNoPart (tPart (tC (.int 2)))) (tLst (tCons (tC (.str "river")) (tCons (tC (.str "-")) tNil))))) (tTest (tOp rGtI (tCB (rLenS c.K) (tCons (tVar 2) tNil)) (tC (.int 41))))) (tRet (tC (.bl false))) tNext)
  (tSeq (tFor (iRng2 (tCons (tC (.int 2)) (tCons (tCB (rLenS c.K) (tCons (tVar 2) tNil)) tNil))) (gName 3)
  (tIfS (tTest (tOp rLtI (tFn (sp_l_number c) (wF E) (tCons (tOp (rIxL c.K) (tVar 2) (tVar 3)) (tCons (tOp rSubI (tVar 3) (tC (.int 2))) tNil))) (tC (.int 0)))) (tRet (tC (.bl false))) tNext))
  (tSeq (tAsg (tLc (iList c.K (tSl (rSlL c.K) (tVar 1) (tPart (tC (.int 1))) tNoPart)) (gName 5) tYes (tFn (sp_l_right_line c) wN (tCons (tVar 5) (tCons (tOp rSubI (tCB (rLenS c.K) (tCons (tVar 2) tNil)) (tC (.int 1))) tNil))) [5]) (gName 4))
  (tSeq (tIfS (tOr (tTest (tOp (rInD c.K) (tC .non) (tVar 4))) (tTest (tOp rGtI (tCB (rLenS c.K) (tCons (tVar 4) tNil)) (tC (.int 40))))) (tRet (tC (.bl false))) tNext)
  (tSeq (tAsg (tLc (iList c.K (tVar 4)) (gName 7) tYes (tOp (rIxT c.K) (tVar 7) (tC (.int 0))) [7]) (gName 6))
  (tRet (tAndV (tOp rEq (tLenSetT c.K (tVar 6)) (tCB (rLenS c.K) (tCons (tVar 6) tNil))) (tOp (rEqD c.K) (tVar 4) (tFn (sp_l_aged c) (wF E) (tCons (tVar 4) tNil))))))))))))
section
variable {c : Cs}
theorem pure_l_number (vs : List V) (H : Hp) (Q : VK) (E : XK) (h : sp_l_number c vs H Q E) : t_l_number c E { nx := fun _ H' => Q .non H', rt := Q } (start ["word", "most", "sign"] vs) H := by
  obtain ⟨w, most, rfl, hw, k1, k2⟩ := h
  have hl : (S w).length ≤ sizeLine := by rw [S_len]; exact sz_le (by omega)
  have hSl : (S w).length = w.length := S_len w
  unfold t_l_number
  rw [fig_eq, zeroS, emptyS]
  repeat lcg_off
  rw [strD]
  refine k_orD (fun h0 => ?_) (fun h0 => ?_)
  · repeat lcg_off
    exact k2 fun n e => absurd (e.symm.trans h0) (TL.numL_ne n)
  repeat lcg_off
  refine k_lenT hl ?_
  rw [hSl]
  repeat lcg_off
  refine k_orD (fun h1 => ?_) (fun h1 => ?_)
  · repeat lcg_off
    exact k2 fun n _ z => absurd h1 (by omega)
  repeat lcg_off
  refine k_lenT hl ?_
  rw [hSl]
  repeat lcg_off
  have go : (w.length ≤ 1 ∨ w[0]? ≠ some 48) → tSeq (tFor (iStr (tVar 0)) (gName 2) (tIfS (tTest (tOp rNotInS (tVar 2) (tC (.str (S figL))))) (tRet (tUn rNegI (tC (.int 1)))) tNext))
      (tSeq (tIfS (tTest (tOp rGtI (tCB rIntS (tCons (tVar 0) tNil)) (tVar 1))) (tRet (tUn rNegI (tC (.int 1)))) tNext) (tRet (tCB rIntS (tCons (tVar 0) tNil)))) { nx := fun _ H' => Q .non H', rt := Q } [some (.str (S w)), some (.int most), none] H := by
    intro hz
    repeat lcg_off
    refine k_forS (fun i σ H' => (∃ v, σ = [some (.str (S w)), some (.int most), v]) ∧ H' = H ∧ ∀ j x, j < i → w[j]? = some x → x ∈ figL) ⟨⟨_, rfl⟩, rfl, fun j _ hj => absurd hj (Nat.not_lt_zero _)⟩ ?_ ?_
    · rintro i x σ H' hx ⟨⟨v, rfl⟩, rfl, hj⟩
      have hx' : w[i]? = some x := by
        rw [← hx]
        show w[i]? = w.toArray[i]?
        simp
      show tIfS _ _ _ _ [some (.str (S w)), some (.int most), some (.str ⟨#[x]⟩)] _
      repeat lcg_off
      refine k_notInS ?_
      repeat lcg_off
      refine k_ifN (fun h3 => ?_) (fun h3 => ?_)
      · repeat lcg_off
        refine k2 fun n e => ?_
        rw [e] at hx'
        exact absurd (fig_mem.mpr (TL.numL_digits n x (List.mem_of_getElem? hx'))) h3
      · repeat lcg_off
        refine ⟨⟨_, rfl⟩, rfl, fun j y hj' hy => ?_⟩
        by_cases e : j = i
        · subst e
          rw [hx'] at hy
          cases hy
          exact h3
        · exact hj j y (by omega) hy
    · rintro σ H' ⟨⟨v, rfl⟩, rfl, hj⟩
      have hd : ∀ x ∈ w, x ∈ figL := fun x hx => by
        obtain ⟨j, hj', e⟩ := List.getElem_of_mem hx
        exact hj j x (by show j < w.toArray.size; simpa using hj') (by rw [List.getElem?_eq_getElem hj', e])
      have hi : intText? (S w) = some ((NumText.digitsVal w : Nat) : Int) := by
        refine int_S (List.all_eq_true.mpr fun x hx => ?_) h0 (by omega)
        have := fig_mem.mp (hd x hx)
        rw [Bool.and_eq_true]
        exact ⟨decide_eq_true this.1, decide_eq_true this.2⟩
      have hn := numL_of hd h0 hz
      repeat lcg_off
      refine k_intS hi (by rw [hSl]; omega) ?_
      repeat lcg_off
      refine k_ifD (fun h4 => ?_) (fun h4 => ?_)
      · repeat lcg_off
        refine k2 fun n e _ z => ?_
        rw [e, TL.numL_val] at h4
        omega
      · repeat lcg_off
        refine k_intS hi (by rw [hSl]; omega) ?_
        exact k1 _ hn (by omega) (by omega)
  refine k_andD (fun h2 => ?_) (fun h2 => ?_)
  · have i0 : w[0]? = some w[0] := List.getElem?_eq_getElem (by omega)
    repeat lcg_off
    refine k_ixS hl (c := w[0]) (atI_nat i0) ?_
    show rEq (V.str (S [w[0]])) _ _ _
    repeat lcg_off
    rw [strD]
    refine k_ifD (fun h3 => ?_) (fun h3 => ?_)
    · repeat lcg_off
      refine k2 fun n e => ?_
      have h5 := numL_head (n := n) (by rw [← e]; omega)
      rw [← e, i0] at h5
      exact absurd (by injection h3 with h3; rw [h3]) h5
    · refine r_next ?_
      refine go (.inr fun z => h3 ?_)
      rw [i0] at z
      rw [Option.some.inj z]
  · refine k_ifFF (r_next ?_)
    exact go (.inl (by omega))
theorem pure_l_right_line (vs : List V) (H : Hp) (Q : VK) (E : XK) (h : sp_l_right_line c vs H Q E) : t_l_right_line c E { nx := fun _ H' => Q .non H', rt := Q } (start ["line", "points", "words", "name", "sign", "found"] vs) H := by
  obtain ⟨z, pts, rfl, hz, az, hpts, k1, k2⟩ := h
  unfold t_l_right_line
  rw [letters_eq, spaceS, atS, wantsS, sinceS]
  repeat lcg_off
  refine k_split (by decide) (by decide) (by omega) fun p H1 hp e1 h1 => ?_
  have hwm : ∀ w ∈ TL.spl [32] 0 [] z, w.length ≤ 900 := fun w hw => by
    have := (spl1_mem 32 z [] w hw).1
    have : ([] : List Nat).length = 0 := rfl
    omega
  have hasc := asc_spl (s := 32) az
  have hjn := spl1_join 32 z []
  have hgo : ∀ w, z = lineL w → okN w → TL.spl [32] 0 [] z = wordsL w := fun w e ok => by rw [e, spl_line ok.2]
  repeat lcg_off
  have hlen : (((TL.spl [32] 0 [] z).map S).map V.str).length = (TL.spl [32] 0 [] z).length := by rw [List.length_map, List.length_map]
  rw [hlen]
  have q1 := SqL.of (K := c.K) h1
  refine k_orN (fun g0 => ?_) (fun g0 => ?_)
  · repeat lcg_off
    exact k2 (fun w e ok => absurd (by rw [hgo w e ok]; rfl) g0) H1 e1
  have hl7 : (TL.spl [32] 0 [] z).length = 7 := by omega
  generalize TL.spl [32] 0 [] z = L at *
  match L, hl7 with
  | [w0, w1, w2, w3, w4, w5, w6], _ =>
  have m0 := hwm w0 (by simp)
  have m2 := hwm w2 (by simp)
  have m4 := hwm w4 (by simp)
  have m6 := hwm w6 (by simp)
  have a1 := hasc w1 (by simp)
  have a3 := hasc w3 (by simp)
  have a5 := hasc w5 (by simp)
  repeat lcg_off
  intro l1 H2 hl1 e2 h2
  repeat lcg_off
  intro l2 H3 hl2 e3 h3
  refine k_neStrs (xs := [S w1, S w3, S w5]) (ys := [S atL, S wantsL, S sinceL]) (SqL.of (e3.g _ _ h2)) (SqL.of h3) ?_ ?_ ?_
  · intro x hx
    simp only [List.mem_cons, List.not_mem_nil, or_false] at hx
    rcases hx with rfl | rfl | rfl
    · exact strOk_S a1
    · exact strOk_S a3
    · exact strOk_S a5
  · intro x hx
    simp only [List.mem_cons, List.not_mem_nil, or_false] at hx
    rcases hx with rfl | rfl | rfl
    · exact strOk_S (by unfold asc; decide)
    · exact strOk_S (by unfold asc; decide)
    · exact strOk_S (by unfold asc; decide)
  have e13 := (e1.trans e2).trans e3
  have q3 := e3.sq (e2.sq q1)
  repeat lcg_off
  refine k_ifN (fun g1 => ?_) (fun g1 => ?_)
  · repeat lcg_off
    refine k2 (fun w e ok => ?_) H3 e13
    have h := hgo w e ok
    unfold wordsL at h
    injection h with _ h
    injection h with j1 h
    injection h with _ h
    injection h with j3 h
    injection h with _ h
    injection h with j5 h
    exact absurd (by rw [j1, j3, j5]) g1
  injection g1 with j1 g1
  injection g1 with j3 g1
  injection g1 with j5 _
  have j1 := S_inj j1
  have j3 := S_inj j3
  have j5 := S_inj j5
  subst j1 j3 j5
  have hback : ∀ (n p a d : _), w0 = n → w2 = TL.numL p → w4 = TL.numL a → w6 = TL.numL d → z = lineL ⟨S n, p, (a : Nat), (d : Nat)⟩ := by
    intro n p a d r0 r2 r4 r6
    subst r0 r2 r4 r6
    exact hjn.symm
  repeat lcg_off
  try refine k_ixL q3 (str_at _ 0 w0 rfl) ?_
  try repeat lcg_off
  have hl0 : (S w0).length ≤ sizeLine := by rw [S_len]; exact sz_le (by omega)
  have hS0 : (S w0).length = w0.length := S_len w0
  refine k_lenT hl0 ?_
  rw [hS0]
  repeat lcg_off
  have hbad : ¬ nameOk w0 → ∀ H', Ext H H' → Q .non H' := fun nn => k2 fun w e ok => by
    have h := hgo w e ok
    unfold wordsL at h
    injection h with j0 _
    exact absurd (by rw [j0]; exact ok.2) nn
  refine k_chainD (fun h1 => ?_) (fun h1 => ?_)
  rotate_left
  · repeat lcg_off
    exact hbad (fun z => h1 (by have := z.1; omega)) H3 e13
  repeat lcg_off
  refine k_orN (fun h2 => ?_) (fun h2 => ?_)
  · repeat lcg_off
    exact hbad (fun z => h2 (by have := z.2.1; omega)) H3 e13
  repeat lcg_off
  refine k_lcS (fun x => !decide (x ∈ lettersL)) (fun x => .str ⟨#[x]⟩) (fun x => rfl) (by omega) (fun x hx H4 ac QB q => ?_) (fun x hx _ H4 ac Q1 q => ?_) (fun D H4 hD e4 h4 => ?_)
  · repeat lcg_off
    refine k_notInS ?_
    exact k_bl (q H4 (Ext.refl _))
  · repeat lcg_off
    exact q H4 (Ext.refl _)
  repeat lcg_off
  rw [List.length_map]
  repeat lcg_off
  have e14 := e13.trans e4
  have q4 := e4.sq q3
  refine k_ifD (fun h5 => ?_) (fun h5 => ?_)
  · repeat lcg_off
    refine hbad (fun nk => ?_) H4 e14
    have : (w0.filter fun x => !decide (x ∈ lettersL)).length = 0 := filter_nil.mpr fun x hx => by
      rw [decide_eq_true (nk.2.2 x hx)]
      rfl
    omega
  have nok : nameOk w0 := ⟨by omega, by omega, fun x hx => by
    have := filter_nil.mp (show (w0.filter fun x => !decide (x ∈ lettersL)).length = 0 by omega) x hx
    simpa using this⟩
  repeat lcg_off
  refine k_numV m2 fun r2 n2 => ?_
  repeat lcg_off
  refine k_numV m4 fun r4 n4 => ?_
  repeat lcg_off
  refine k_numV m6 fun r6 n6 => ?_
  repeat lcg_off
  intro t H5 ht e5 h5
  repeat lcg_off
  refine k_inT h5 rfl rfl ?_
  rw [inV_m1]
  repeat lcg_off
  have e15 := e14.trans e5
  refine k_ifD (fun h6 => ?_) (fun h6 => ?_)
  · repeat lcg_off
    refine k2 (fun w e ok hp => ?_) H5 e15
    have h := hgo w e ok
    unfold wordsL at h
    injection h with _ h
    injection h with _ h
    injection h with r2' h
    injection h with _ h
    injection h with r4' h
    injection h with _ h
    injection h with r6' _
    have b1 := ok.1.a0
    have b2 := ok.1.a1
    have b3 := ok.1.d0
    have b4 := ok.1.d1
    have b5 := ok.1.p
    have l2 := num_small (n := w.p) (by omega)
    have l4 := num_small (n := w.a.toNat) (by omega)
    have l6 := num_small (n := w.d.toNat) (by omega)
    rw [← r2'] at l2
    rw [← r4'] at l4
    rw [← r6'] at l6
    rcases h6 with h6 | h6 | h6
    · rcases n2 with ⟨n, _, _, _, e⟩ | ⟨_, h⟩
      · omega
      · exact h _ r2' l2 (by omega)
    · rcases n4 with ⟨n, _, _, _, e⟩ | ⟨_, h⟩
      · omega
      · exact h _ r4' l4 (by omega)
    · rcases n6 with ⟨n, _, _, _, e⟩ | ⟨_, h⟩
      · omega
      · exact h _ r6' l6 (by omega)
  · rcases n2 with ⟨p2, e2', l2, b2, rfl⟩ | ⟨e, _⟩
    rotate_left
    · exact absurd (.inl e) h6
    rcases n4 with ⟨p4, e4', l4, b4, rfl⟩ | ⟨e, _⟩
    rotate_left
    · exact absurd (.inr (.inl e)) h6
    rcases n6 with ⟨p6, e6', l6, b6, rfl⟩ | ⟨e, _⟩
    rotate_left
    · exact absurd (.inr (.inr e)) h6
    repeat lcg_off
    refine k1 ⟨S w0, p2, (p4 : Nat), (p6 : Nat)⟩ (hback _ _ _ _ rfl e2' e4' e6') ⟨⟨?_, Int.natCast_nonneg _, b4, Int.natCast_nonneg _, b6, by show p2 < 40; omega⟩, nok⟩ (by show (p2 : Int) < pts; omega) t H5 e15 h5
    show (S w0).length ≤ 8
    rw [S_len]
    exact nok.2.1
noncomputable def rdL (pts : Int) (z : List Nat) : Option Rw := open Classical in if h : ∃ w, z = lineL w ∧ okN w ∧ (w.p : Int) < pts then some (Classical.choose h) else none
theorem rdL_some {pts : Int} {z : List Nat} {w : Rw} (h : rdL pts z = some w) : z = lineL w ∧ okN w ∧ (w.p : Int) < pts := by
  unfold rdL at h
  split at h
  · rename_i h'
    cases h
    exact Classical.choose_spec h'
  · cases h
theorem rdL_line {pts : Int} {w : Rw} (h : okN w) (hp : (w.p : Int) < pts) : rdL pts (lineL w) = some w := by
  have hex : ∃ u, lineL w = lineL u ∧ okN u ∧ (u.p : Int) < pts := ⟨w, rfl, h, hp⟩
  unfold rdL
  rw [dif_pos hex]
  have hs := Classical.choose_spec hex
  exact congrArg some (line_inj h hs.2.1 hs.1).symm
theorem rdL_none {pts : Int} {z : List Nat} (h : rdL pts z = none) : ∀ w, z = lineL w → okN w → ¬ (w.p : Int) < pts := fun w e ok hp => by
  rw [e, rdL_line ok hp] at h
  cases h
/-- a line's right, or none -/
def OrF : Hp → V → Option Rw → Prop := fun H v o => match o with
  | none => v = .non
  | some w => RwF H v w
theorem OrF_mono : ∀ H1 H2 v b, TupE H1 H2 → OrF H1 v b → OrF H2 v b := fun H1 H2 v b e h => by
  cases b with
  | none => exact h
  | some w => exact RwF_mono _ _ v w e h
def encO : Option Rw → PyData
  | none => .none
  | some w => encF w
theorem dpAll_or {K : PySem.W.Frag} {H : Hp} : ∀ {xs : List V} {R : List (Option Rw)}, Paired (OrF H) xs R → DpAll K H xs (R.map encO)
  | _, _, .nil => .nil
  | _, _, .cons (b := none) r t => by
    have r' : _ = V.non := r
    subst r'
    exact .cons .non (dpAll_or t)
  | _, _, .cons (b := some w) r t => by
    obtain ⟨t', e, h⟩ := r
    subst e
    exact .cons (dp_row h) (dpAll_or t)
theorem any_or : ∀ R : List (Option Rw), (R.map encO).any (fun z => PyData.eqv z .none) = decide (none ∈ R)
  | [] => rfl
  | none :: R => by simp [encO, PyData.eqv]
  | some w :: R => by
    rw [List.map_cons, List.any_cons, any_or R]
    simp [encO, encF, PyData.eqv]
theorem laid_or {R : List (Option Rw)} (h : ∀ w, some w ∈ R → PyData.strOk w.n = true) : laid (.list (R.map encO)) 2 := laid_list fun d hd => by
  obtain ⟨o, ho, rfl⟩ := List.mem_map.mp hd
  cases o with
  | none => exact laid_mono laid_none (Nat.zero_le _)
  | some w => exact encF_laid (h w ho)
theorem k_noneIn {K : PySem.W.Frag} {H : Hp} {Q : VK} {p : Addr} {xs : List V} {R : List (Option Rw)} (h : H p = some (.lst xs)) (pr : Paired (OrF H) xs R) (ok : ∀ w, some w ∈ R → PyData.strOk w.n = true) (q : Q (.bl (decide (none ∈ R))) H) : rInD K .non (.ref p) H Q := by
  refine ⟨.none, R.map encO, .non, .lst (SqL.of h) (dpAll_or pr), laid_shaped laid_none (by decide), laid_shaped (laid_or ok) (by decide), ?_⟩
  rw [any_or]
  exact q
theorem all_some {R : List (Option Rw)} (h : none ∉ R) : ∃ T : List Rw, R = T.map some := by
  induction R with
  | nil => exact ⟨[], rfl⟩
  | cons o R ih =>
    cases o with
    | none => exact absurd List.mem_cons_self h
    | some w =>
      obtain ⟨T, e⟩ := ih fun z => h (List.mem_cons_of_mem _ z)
      exact ⟨w :: T, by rw [e]; rfl⟩
theorem paired_some {H : Hp} : ∀ {xs : List V} {T : List Rw}, Paired (OrF H) xs (T.map some) → Paired (RwF H) xs T
  | _, [], .nil => .nil
  | _, _ :: _, .cons r t => .cons r (paired_some t)
theorem nameOk_str {w : Rw} (h : nameOk w.n.cps.toList) : PyData.strOk w.n = true := by
  have := strOk_S (z := w.n.cps.toList) fun x hx => by
    have := let_mem.mp (h.2.2 x hx)
    omega
  exact this
theorem cutV_upto {xs : List V} {p : Nat} : cutV xs none (some (p : Int)) = xs.take p := by
  unfold cutV
  rw [HT.sIx_none, HT.sIx_nat, Nat.sub_zero, List.drop_zero]
  by_cases h : p ≤ xs.length
  · rw [Nat.min_eq_left h]
  · rw [Nat.min_eq_right (by omega), List.take_of_length_le (Nat.le_refl _), List.take_of_length_le (by omega)]
theorem pure_l_good (vs : List V) (H : Hp) (Q : VK) (E : XK) (h : sp_l_good c vs H Q E) : t_l_good c E { nx := fun _ H' => Q .non H', rt := Q } (start ["text", "lines", "words", "k", "rights", "line", "names", "right"] vs) H := by
  obtain ⟨z, rfl, hz, az, k1, k2⟩ := h
  unfold t_l_good
  rw [lineS, spaceS, riverS, dashS]
  repeat lcg_off
  refine k_split (by decide) (by decide) (by omega) fun p H1 hp e1 h1 => ?_
  repeat lcg_off
  have hjn := spl1_join 10 z []
  have hne := spl1_ne 10 z []
  have hasc := asc_spl (s := 10) az
  have hln := spl1_len 10 z []
  have hwm : ∀ w ∈ TL.spl [10] 0 [] z, w.length ≤ 900 := fun w hw => by
    have := (spl1_mem 10 z [] w hw).1
    have : ([] : List Nat).length = 0 := rfl
    omega
  have hgo : ∀ B R, z = textL B R → (∀ w ∈ R, okW w ∧ nameOk w.n.cps.toList ∧ w.p ≤ B.length) → TL.spl [10] 0 [] z = headL B :: (agedR R).map lineL := fun B R e ok => by rw [e, spl_text fun w hw => (ok w hw).2.1]
  generalize TL.spl [10] 0 [] z = L at *
  cases L with
  | nil => exact absurd rfl hne
  | cons hd ls =>
  repeat lcg_off
  have q1 := SqL.of (K := c.K) h1
  have hhd := hwm hd List.mem_cons_self
  have ahd := hasc hd List.mem_cons_self
  refine k_ixL q1 (str_at _ 0 hd rfl) ?_
  repeat lcg_off
  refine k_split (a := hd) (b := [32]) (by decide) (by decide) (by omega) fun q H2 hq e2 h2 => ?_
  have hj2 := spl1_join 32 hd []
  have hasc2 := asc_spl (s := 32) ahd
  have hwl := spl1_len 32 hd []
  have hwm2 : ∀ w ∈ TL.spl [32] 0 [] hd, w.length ≤ 900 := fun w hw => by
    have := (spl1_mem 32 hd [] w hw).1
    have : ([] : List Nat).length = 0 := rfl
    omega
  have hgo2 : ∀ B, hd = headL B → TL.spl [32] 0 [] hd = riverL :: [45] :: B.map TL.numL := fun B e => by rw [e, spl_head]
  generalize TL.spl [32] 0 [] hd = W at *
  repeat lcg_off
  refine k_slL (SqL.of h2) fun s H3 hs e3 h3 => ?_
  rw [show (2 : Int) = ((2 : Nat) : Int) from rfl, cutV_upto, ← List.map_take, ← List.map_take] at h3
  repeat lcg_off
  intro l2 H4 hl2 e4 h4
  refine k_neStrs (xs := (W.take 2).map S) (ys := [S riverL, S [45]]) (SqL.of (e4.g _ _ h3)) (SqL.of h4) ?_ ?_ ?_
  · intro x hx
    obtain ⟨w, hw, rfl⟩ := List.mem_map.mp hx
    exact strOk_S (hasc2 w (List.mem_of_mem_take hw))
  · intro x hx
    simp only [List.mem_cons, List.not_mem_nil, or_false] at hx
    rcases hx with rfl | rfl
    · exact strOk_S (by unfold asc; decide)
    · exact strOk_S (by unfold asc; decide)
  have e24 := e3.trans e4
  have e14 := (e1.trans e2).trans e24
  repeat lcg_off
  refine k_orN (fun g1 => ?_) (fun g1 => ?_)
  · repeat lcg_off
    refine k2 (fun ⟨B, R, e, hB, nd, ok, hl⟩ => ?_) H4 e14
    have h := hgo B R e ok
    injection h with h _
    exact absurd (by rw [hgo2 B h]; rfl) g1
  obtain ⟨ws, rfl⟩ : ∃ ws, W = riverL :: [45] :: ws := by
    match W, g1 with
    | [], g1 => cases g1
    | [w0], g1 => cases g1
    | w0 :: w1 :: ws, g1 =>
      have g1' : [S w0, S w1] = [S riverL, S [45]] := g1
      injection g1' with j0 g2
      injection g2 with j1 _
      rw [S_inj j0, S_inj j1]
      exact ⟨ws, rfl⟩
  have h24 := e24.g _ _ h2
  have q24 := SqL.of (K := c.K) h24
  repeat lcg_off
  have hlW : (((riverL :: [45] :: ws).map S).map V.str).length = ws.length + 2 := by simp
  rw [hlW]
  repeat lcg_off
  refine k_ifD (fun g2 => ?_) (fun g2 => ?_)
  · repeat lcg_off
    refine k2 (fun ⟨B, R, e, hB, nd, ok, hl⟩ => ?_) H4 e14
    have h := hgo B R e ok
    injection h with h _
    have h' := hgo2 B h
    injection h' with _ h'
    injection h' with _ h'
    have := hB.few
    rw [h', List.length_map] at g2
    omega
  repeat lcg_off
  rw [hlW]
  repeat lcg_off
  rw [show (((ws.length + 2 : Nat) : Int) - 2).toNat = ws.length by omega]
  refine k_forR (fun i σ H' => (∃ v, σ = [some (.str (S z)), some (.ref p), some (.ref q), v, none, none, none, none]) ∧ H' = H4 ∧ ∀ j x, j < i → ws[j]? = some x → ∃ n : Nat, x = TL.numL n ∧ n ≤ j) ⟨⟨_, rfl⟩, rfl, fun j _ hj => absurd hj (Nat.not_lt_zero _)⟩ ?_ ?_
  · rintro i σ H' hi ⟨⟨v, rfl⟩, rfl, hj⟩
    rw [show (2 : Int) + (i : Int) = ((i + 2 : Nat) : Int) by omega]
    show tIfS _ _ _ _ [some (.str (S z)), some (.ref p), some (.ref q), some (.int ((i + 2 : Nat) : Int)), none, none, none, none] _
    have gi : ws[i]? = some ws[i] := List.getElem?_eq_getElem hi
    have hwi := hwm2 ws[i] (List.mem_cons_of_mem _ (List.mem_cons_of_mem _ (List.getElem_mem hi)))
    generalize ws[i] = wi at gi hwi
    repeat lcg_off
    refine k_ixL q24 (str_at _ (i + 2) wi (by simpa using gi)) ?_
    repeat lcg_off
    refine k_numV hwi fun r nr => ?_
    repeat lcg_off
    refine k_ifD (fun g3 => ?_) (fun g3 => ?_)
    · repeat lcg_off
      refine k2 (fun ⟨B, R, e, hB, nd, ok, hl⟩ => ?_) H' e14
      have h := hgo B R e ok
      injection h with h _
      have h' := hgo2 B h
      injection h' with _ h'
      injection h' with _ h'
      rw [h', List.getElem?_map] at gi
      obtain ⟨n, hn, rfl⟩ := Option.map_eq_some_iff.mp gi
      have hlo := hB.low i (get_lt hn)
      rw [List.getD_eq_getElem?_getD, hn] at hlo
      have hlo' : n ≤ i := hlo
      have hf := hB.few
      have hi' := get_lt hn
      have hl := num_small (n := n) (by omega)
      rcases nr with ⟨m, _, _, _, e⟩ | ⟨_, h⟩
      · omega
      · exact h n rfl hl (by omega)
    · repeat lcg_off
      rcases nr with ⟨m, em, _, hm, e⟩ | ⟨e, _⟩
      rotate_left
      · exact absurd (by rw [e]; decide) g3
      refine ⟨⟨_, rfl⟩, rfl, fun j x hj' hx => ?_⟩
      by_cases ej : j = i
      · subst ej
        rw [gi] at hx
        cases hx
        exact ⟨m, em, by omega⟩
      · exact hj j x (by omega) hx
  · rintro σ H' ⟨⟨v, rfl⟩, rfl, hj⟩
    have hws : ws = (ws.map NumText.digitsVal).map TL.numL := by
      rw [List.map_map]
      refine (List.map_id ws).symm.trans (List.map_congr_left fun x hx => ?_)
      obtain ⟨j, hj', e⟩ := List.getElem_of_mem hx
      obtain ⟨n, en, _⟩ := hj j x hj' (by rw [List.getElem?_eq_getElem hj', e])
      show x = TL.numL (NumText.digitsVal x)
      rw [en, TL.numL_val]
    have hB : Riv (ws.map NumText.digitsVal) := by
      refine ⟨by rw [List.length_map]; omega, fun i hi => ?_⟩
      rw [List.length_map] at hi
      obtain ⟨n, en, hn⟩ := hj i ws[i] hi (List.getElem?_eq_getElem hi)
      rw [List.getD_eq_getElem?_getD, List.getElem?_map, List.getElem?_eq_getElem hi, en]
      show NumText.digitsVal (TL.numL n) ≤ i
      rw [TL.numL_val]
      exact hn
    have hBl : (ws.map NumText.digitsVal).length = ws.length := List.length_map _
    generalize ws.map NumText.digitsVal = B at hws hB hBl
    have hhB : hd = headL B := by
      have hj2' : TL.joinL [32] (riverL :: [45] :: ws) = hd := hj2
      rw [← hj2', hws]
      rfl
    repeat lcg_off
    refine k_slL ((e2.trans e24).sq q1) fun s2 H5 hs2 e5 h5 => ?_
    rw [show (1 : Int) = ((1 : Nat) : Int) from rfl, cutV_from (by simp)] at h5
    have h5' : H5 s2 = some (.lst (ls.map fun x => .str (S x))) := by
      rw [h5]
      simp [Function.comp_def]
    have e15 := e14.trans e5
    have q25 := e5.sq q24
    repeat lcg_off
    have hll : ls.length ≤ 901 := by
      rw [List.length_cons] at hln
      omega
    refine k_lcLr ls (fun x => .str (S x)) (fun _ => true) (rdL (((ws.length + 2 : Nat) : Int) - 1)) OrF (SqL.of h5') OrF_mono (fun x => rfl) (by omega) (fun x hx H6 ac QB q => by (repeat lcg_off); exact q H6 (Ext.refl _)) (fun x hx _ H6 ac Q1 q6 => ?_) (fun D vs6 H6 hD e6 h6 pr6 => ?_)
    · have q26 := ac.sq q25
      repeat lcg_off
      rw [hlW]
      repeat lcg_off
      refine ⟨x, _, rfl, hwm x (List.mem_cons_of_mem _ hx), hasc x (List.mem_cons_of_mem _ hx), by omega, fun w e ok hp t H7 e7 h7 => ?_, fun h H7 e7 => ?_⟩
      · refine q6 _ H7 e7 ?_
        rw [e, rdL_line ok hp]
        exact ⟨t, rfl, h7⟩
      · refine q6 _ H7 e7 ?_
        have : rdL (((ws.length + 2 : Nat) : Int) - 1) x = none := by
          unfold rdL
          rw [dif_neg fun ⟨w, e, ok, hp⟩ => h w e ok hp]
        rw [this]
        exact rfl
    rw [filter_yes] at pr6
    have hvl := paired_len pr6
    rw [List.length_map] at hvl
    have e16 := e15.trans e6
    have hgood : Good z → ∃ R, ls = (agedR R).map lineL ∧ (R.map Rw.n).Nodup ∧ R.length ≤ 40 ∧ ∀ w ∈ agedR R, okN w ∧ (w.p : Int) < ((ws.length + 2 : Nat) : Int) - 1 := by
      rintro ⟨B', R, e, hB', nd, ok, hl⟩
      have h := hgo B' R e ok
      injection h with h0 h1
      have hBB : B = B' := head_inj (hhB.symm.trans h0)
      refine ⟨R, h1, nd, hl, fun w hw => ?_⟩
      obtain ⟨o1, o2, o3⟩ := ok w (agedR_mem.mp hw)
      refine ⟨⟨o1, o2⟩, ?_⟩
      rw [← hBB, hBl] at o3
      omega
    repeat lcg_off
    refine k_noneIn h6 pr6 (fun w hw => ?_) ?_
    · obtain ⟨x, _, hx⟩ := List.mem_map.mp hw
      exact nameOk_str (rdL_some hx).2.1.2
    repeat lcg_off
    refine k_orD (fun g4 => ?_) (fun g4 => ?_)
    · repeat lcg_off
      refine k2 (fun g => ?_) H6 e16
      obtain ⟨R, e, nd, hl, ok⟩ := hgood g
      rw [e, List.map_map] at g4
      obtain ⟨w, hw, hn⟩ := List.mem_map.mp g4
      have hn' : rdL _ (lineL w) = none := hn
      rw [rdL_line (ok w hw).1 (ok w hw).2] at hn'
      cases hn'
    repeat lcg_off
    rw [hvl]
    refine k_ifD (fun g5 => ?_) (fun g5 => ?_)
    · repeat lcg_off
      refine k2 (fun g => ?_) H6 e16
      obtain ⟨R, e, nd, hl, ok⟩ := hgood g
      rw [e, List.length_map, agedR_len] at g5
      omega
    obtain ⟨T, hT⟩ := all_some g4
    rw [hT] at pr6
    have prT := paired_some pr6
    have hTl : T.length = ls.length := by
      have := congrArg List.length hT
      rw [List.length_map, List.length_map] at this
      exact this.symm
    have hTok : ∀ w ∈ T, okN w ∧ (w.p : Int) < ((ws.length + 2 : Nat) : Int) - 1 := fun w hw => by
      have : some w ∈ T.map some := List.mem_map.mpr ⟨w, hw, rfl⟩
      rw [← hT] at this
      obtain ⟨x, _, hx⟩ := List.mem_map.mp this
      exact (rdL_some hx).2
    have hls : ls = T.map lineL := by
      refine List.ext_getElem? fun i => ?_
      have hi := congrArg (fun l => l[i]?) hT
      simp only [List.getElem?_map] at hi
      rw [List.getElem?_map]
      cases hx : ls[i]? with
      | none =>
        rw [hx] at hi
        cases ht : T[i]? with
        | none => rfl
        | some w =>
          rw [ht] at hi
          cases hi
      | some x =>
        rw [hx] at hi
        cases ht : T[i]? with
        | none =>
          rw [ht] at hi
          cases hi
        | some w =>
          rw [ht] at hi
          have hi' : some (rdL _ x) = some (some w) := hi
          rw [(rdL_some (Option.some.inj hi')).1]
          rfl
    have hRT : Good z → ∃ R, agedR R = T ∧ (R.map Rw.n).Nodup := fun g => by
      obtain ⟨R, e, nd, hl, ok⟩ := hgood g
      exact ⟨R, lines_inj (fun w hw => (ok w hw).1) (fun w hw => (hTok w hw).1) (e.symm.trans hls), nd⟩
    repeat lcg_off
    refine k_lcP (Ro := fun _ v b => v = V.str b) (fun _ => true) (fun w : Rw => w.n) (SqL.of h6) prT (fun _ _ _ _ _ h => h) (fun x => rfl) (by omega) (fun v w hw hv H7 ac QB q => by (repeat lcg_off); exact q H7 (Ext.refl _)) (fun v w hw hv _ H7 ac Q1 q7 => ?_) (fun D2 vs7 H7 hD2 e7 h7 pr7 => ?_)
    · obtain ⟨t, rfl, ht⟩ := hv
      have ht7 := ac.g _ _ ht
      repeat lcg_off
      exact q7 _ H7 (Ext.refl _) rfl
    rw [filter_yes] at pr7
    have h7' : H7 D2 = some (.lst ((T.map Rw.n).map V.str)) := by
      rw [h7, paired_eq (f := V.str) pr7]
    have e17 := e16.trans e7
    repeat lcg_off
    refine ⟨.ref D2, rfl, D2, T.map Rw.n, rfl, SqL.of h7', by rw [List.length_map]; omega, ?_⟩
    repeat lcg_off
    rw [List.length_map]
    repeat lcg_off
    have hno : ¬ ((T.map Rw.n).Nodup ∧ T = agedR T) → ¬ Good z := fun h g => by
      obtain ⟨R, e, nd⟩ := hRT g
      refine h ⟨by rw [← e]; exact agedR_nodup nd, ?_⟩
      rw [← e]
      exact (agedR_perm_eq (agedR_perm R) (agedR_nodup nd)).symm
    have hRt : RtsAt H7 D T := ⟨vs6, e7.g _ _ h6, prT.mono fun v w h => RwF_mono _ _ v w e7.tup h⟩
    refine k_andVD (fun g6 => ?_) (fun g6 => ?_)
    rotate_left
    · exact k2 (hno fun g => g6 (by rw [(ddL_nodup _).mpr g.1])) H7 e17
    have nd : (T.map Rw.n).Nodup := (ddL_nodup _).mp (by omega)
    repeat lcg_off
    refine ⟨D, T, rfl, hRt, nd, by omega, fun ag H8 hag e8 R8 => ?_⟩
    have hok : ∀ w ∈ T, PyData.strOk w.n = true := fun w hw => nameOk_str (hTok w hw).1.2
    refine k_eqRtsD (hRt.ext e8) R8 hok (fun w hw => hok w (agedR_mem.mp hw)) ?_
    by_cases g7 : T = agedR T
    · rw [decide_eq_true g7]
      refine k1 ⟨B, T, ?_, hB, nd, fun w hw => ?_, by omega⟩ H8 (e17.trans e8)
      · unfold textL
        rw [← g7, ← hls, ← hhB]
        exact hjn.symm
      · obtain ⟨o, o3⟩ := hTok w hw
        exact ⟨o.1, o.2, by rw [hBl]; omega⟩
    · rw [decide_eq_false g7]
      exact k2 (hno fun g => g7 g.2) H8 (e17.trans e8)
end
end Rv

end
section
namespace Rv
open PySem L2
open SX (S S_inj S_len S_cat join_S num_S S_tl lens split_S int_S)
theorem op_repS {X : Cx} : OpR X (binaryOp .Mult) rRepS := by
  intro pins s σ H x y v u Q I rx ry h
  obtain ⟨z, n, rfl, rfl, h1, h2, h3, q⟩ := h
  obtain ⟨t, rfl⟩ := rx
  obtain ⟨t2, rfl⟩ := ry
  exact PySem.SB.mul (PyProof.Rows.mulOk_of 1000 1000 h1 (by omega) (by omega) (by decide) (by decide)) fun t' k => ⟨.str _, H, I.tok _, ⟨_, rfl⟩, q⟩
theorem k_repOne {ch : Nat} {n : Int} {H : Hp} {Q : VK} (h2 : 0 ≤ n) (h3 : n ≤ 1000) (q : Q (.str (S (List.replicate n.toNat ch))) H) : rRepS (.str (S [ch])) (.int n) H Q := by
  have e : Txt.mul (S [ch]) n = S (List.replicate n.toNat ch) := str_ext (PyProof.Rows.mul_one_list ch n)
  exact ⟨S [ch], n, rfl, rfl, (by show 1 ≤ 1000; decide), h2, h3, by rw [e]; exact q⟩
theorem k_insert {H : Hp} {Q : VK} {a : Addr} {xs : List V} {j : Nat} {y : V} (h : H a = some (.lst xs)) (hz : xs.length < sizeLine) (hj : j < 1000) (q : ∀ H', But [a] H H' → H' a = some (.lst (xs.take j ++ [y] ++ xs.drop j)) → Q .non H') : rInsert (.ref a) [.int (j : Int), y] H Q :=
  ⟨a, xs, (j : Int), y, rfl, rfl, h, hz, by omega, by omega, q _ but_upd (by rw [Int.toNat_natCast]; exact upd_same)⟩
theorem k_pop0 {H : Hp} {Q : VK} {a : Addr} {xs : List V} {y : V} (h : H a = some (.lst (y :: xs))) (q : ∀ H', But [a] H H' → H' a = some (.lst xs) → Q y H') : rPopAt (.ref a) [.int 0] H Q := by
  refine ⟨a, y :: xs, 0, 0, y, rfl, rfl, h, by omega, by omega, ?_, rfl, q _ but_upd upd_same⟩
  show (if (decide (0 ≤ (if (0 : Int) < 0 then (0 : Int) + ((y :: xs).length : Int) else 0)) && decide ((if (0 : Int) < 0 then (0 : Int) + ((y :: xs).length : Int) else 0) < ((y :: xs).length : Int))) = true then some (if (0 : Int) < 0 then (0 : Int) + ((y :: xs).length : Int) else 0).toNat else none) = some 0
  rw [if_neg (show ¬ (0 : Int) < 0 by decide), decide_eq_true (show (0 : Int) ≤ 0 by decide), decide_eq_true (show (0 : Int) < ((y :: xs).length : Int) by rw [List.length_cons]; omega)]
  rfl
theorem k_orP {σ : L2.St} {H : Hp} {x : Bool} {u : TT} {QB : Bool → Hp → Prop} (y : Bool) (hu : ∀ QB : Bool → Hp → Prop, QB y H → u σ H QB) (q : QB (x || y) H) : kOr u σ QB x H := by
  cases x with
  | true => exact q
  | false => exact hu _ q
theorem or_dec {p q : Prop} [Decidable p] [Decidable q] : (decide p || decide q) = decide (p ∨ q) := by
  by_cases h1 : p
  · simp [h1]
  · simp [h1]
def oddL (w : List Nat) (n : Nat) : List (List Nat) := [[], [45], 48 :: w, 43 :: w, w ++ [32], [65, 116], [97, 116], [49, 48, 48, 48, 48, 48, 49], [49, 48, 48, 48, 48], [45, 49], [97, 32, 98], [65]] ++ [[97, 98, 99, 100, 101, 102, 103, 104, 105], w ++ [46], [49, 95, 48], List.replicate n 57]
theorem odd_ok {w : List Nat} {n : Nat} (hn : n ≤ 310) (hw : asc w) : ∀ u ∈ oddL w n, u.length ≤ w.length + 310 ∧ asc u := by
  intro u hu
  have a1 : ∀ c, c < 128 → asc [c] := fun c hc x hx => by
    rw [List.mem_singleton.mp hx]
    exact hc
  have aw1 : ∀ c, c < 128 → asc (c :: w) := fun c hc => asc_app (x := [c]) (a1 c hc) hw
  have aw2 : ∀ c, c < 128 → asc (w ++ [c]) := fun c hc => asc_app hw (a1 c hc)
  unfold oddL at hu
  simp only [List.mem_append, List.mem_cons, List.not_mem_nil, or_false] at hu
  rcases hu with (e | e | e | e | e | e | e | e | e | e | e | e) | (e | e | e | e) <;> rw [e]
  · exact ⟨by simp, by unfold asc; decide⟩
  · exact ⟨by simp, by unfold asc; decide⟩
  · exact ⟨by simp, aw1 _ (by decide)⟩
  · exact ⟨by simp, aw1 _ (by decide)⟩
  · exact ⟨by simp, aw2 _ (by decide)⟩
  · exact ⟨by simp, by unfold asc; decide⟩
  · exact ⟨by simp, by unfold asc; decide⟩
  · exact ⟨by simp, by unfold asc; decide⟩
  · exact ⟨by simp, by unfold asc; decide⟩
  · exact ⟨by simp, by unfold asc; decide⟩
  · exact ⟨by simp, by unfold asc; decide⟩
  · exact ⟨by simp, by unfold asc; decide⟩
  · exact ⟨by simp, by unfold asc; decide⟩
  · exact ⟨by simp, aw2 _ (by decide)⟩
  · exact ⟨by simp, by unfold asc; decide⟩
  · refine ⟨by rw [List.length_replicate]; omega, fun x hx => ?_⟩
    rw [List.eq_of_mem_replicate hx]
    decide
def sp_l_odd (c : Cs) : Sp := fun vs H Q E => ∃ w cl, vs = [.str (S w), .int cl] ∧ w.length ≤ 900 ∧ asc w ∧ ∀ u H', u.length ≤ w.length + 310 → asc u → Ext H H' → Q (.str (S u)) H'
def sp_l_turned (c : Cs) : Sp := fun vs H Q E => ∃ (p : Addr) (L : List (List Nat)) (way cl ot : Int), vs = [.ref p, .int way, .int cl, .int ot] ∧ H p = some (.lst ((L.map S).map V.str)) ∧ L ≠ [] ∧ L.length ≤ 10 ∧ (∀ x ∈ L, asc x ∧ x.length ≤ 80) ∧ tot L ≤ 330 ∧
  ∀ z H', z.length ≤ 900 → asc z → Ext H H' → Q (.str (S z)) H'
end Rv
local macro_rules | `(tactic| lcg_src) => `(tactic| first
  | assumption
  | (with_reducible exact Rv.lk_here)
  | (refine (Rv.lk_past (by decide +kernel)).trans ?_; lcg_src)
  | (with_unfolding_all exact rfl))
local macro_rules | `(tactic| keq_hits) => `(tactic| first
  | assumption
  | ((with_reducible apply Rv.Ext.hl); (focus assumption); (focus keq_hits))
  | ((with_reducible apply Rv.But.hl); (focus assumption); (focus keq_hits); (focus keq_hits))
  | ((with_reducible apply Rv.Ac.hl); (focus assumption); (focus keq_hits))
  | ((with_reducible apply L2.SqL.of); (focus assumption))
  | ((with_reducible apply Rv.Ext.sq); (focus assumption); (focus keq_hits))
  | ((with_reducible apply Rv.But.sq); (focus assumption); (focus keq_hits); (focus keq_hits))
  | ((with_reducible apply Rv.Ac.sq); (focus assumption); (focus keq_hits))
  | ((with_reducible apply L2.SqT.of); (focus assumption))
  | ((with_reducible apply Rv.Ext.st); (focus assumption); (focus keq_hits))
  | ((with_reducible apply Rv.But.st); (focus assumption); (focus keq_hits); (focus keq_hits))
  | ((with_reducible apply Rv.Ac.st); (focus assumption); (focus keq_hits))
  | ((with_reducible apply L2.Rd.of); (focus keq_hits))
  | ((with_reducible apply Rv.RivAt.ext); (focus assumption); (focus keq_hits))
  | ((with_reducible apply Rv.RivAt.but); (focus assumption); (focus keq_hits); (focus keq_hits); (focus keq_hits))
  | ((with_reducible apply Rv.RivAt.ac); (focus assumption); (focus keq_hits))
  | (with_reducible apply Rv.nin_nil)
  | ((with_reducible apply Rv.BokAt.ext); (focus assumption); (focus keq_hits))
  | ((with_reducible apply Rv.DicAt.ne); (focus assumption); (focus assumption); (focus (intro _ z; cases z)))
  | ((with_reducible apply Rv.DicAt.nf); (focus assumption); (focus assumption))
  | ((with_reducible apply Rv.Ext.tup); (focus assumption))
  | ((with_reducible apply Rv.Ac.tup); (focus assumption))
  | ((with_reducible apply Rv.nin_cons); (focus keq_hits); (focus keq_hits))
  | (with_reducible apply Rv.frs_nil)
  | ((with_reducible apply Rv.frs_cons); (focus keq_hits); (focus keq_hits))
  | ((with_reducible apply Ne.symm); (focus assumption))
  | ((with_reducible apply Rv.ne_nf); (focus assumption); (focus assumption))
  | ((with_reducible apply Rv.ne_fn); (focus assumption); (focus assumption))
  | ((with_reducible apply Rv.ne_k1); (focus assumption); (focus assumption); (focus (first | (intro z; cases z; done) | ((with_reducible apply Rv.ins_ne); intro z; cases z; done))))
  | ((with_reducible apply Rv.ne_k2); (focus assumption); (focus assumption); (focus (first | (intro z; cases z; done) | ((with_reducible apply Rv.ins_ne); intro z; cases z; done))))
  | ((with_reducible apply Rv.free2); (focus assumption); (focus assumption))
  | (with_reducible apply Rv.Ac.refl)
  | ((with_reducible apply Rv.Ac.step'); (focus assumption); (focus keq_hits))
  | ((with_reducible apply Rv.Ac.but'); (focus assumption); (focus keq_hits); (focus keq_hits))
  | (with_reducible apply Rv.Ext.refl)
  | ((with_reducible apply Rv.Ac.ext); (focus keq_hits))
  | ((with_reducible apply Rv.sz_le); first | omega | (simp only [List.length_cons, List.length_nil, List.length_map, List.length_append]; omega))
  | ((with_reducible apply Rv.sz_lt); first | omega | (simp only [List.length_cons, List.length_nil, List.length_map, List.length_append]; omega)))
local macro_rules | `(tactic| kln_le) => `(tactic| first
  | assumption
  | ((with_reducible apply Rv.Ext.hl); (focus assumption); (focus kln_le))
  | ((with_reducible apply Rv.But.hl); (focus assumption); (focus kln_le); (focus kln_le))
  | ((with_reducible apply Rv.Ac.hl); (focus assumption); (focus kln_le))
  | ((with_reducible apply L2.SqL.of); (focus assumption))
  | ((with_reducible apply Rv.Ext.sq); (focus assumption); (focus kln_le))
  | ((with_reducible apply Rv.But.sq); (focus assumption); (focus kln_le); (focus kln_le))
  | ((with_reducible apply Rv.Ac.sq); (focus assumption); (focus kln_le))
  | ((with_reducible apply L2.SqT.of); (focus assumption))
  | ((with_reducible apply Rv.Ext.st); (focus assumption); (focus kln_le))
  | ((with_reducible apply Rv.But.st); (focus assumption); (focus kln_le); (focus kln_le))
  | ((with_reducible apply Rv.Ac.st); (focus assumption); (focus kln_le))
  | ((with_reducible apply L2.Rd.of); (focus kln_le))
  | ((with_reducible apply Rv.RivAt.ext); (focus assumption); (focus kln_le))
  | ((with_reducible apply Rv.RivAt.but); (focus assumption); (focus kln_le); (focus kln_le); (focus kln_le))
  | ((with_reducible apply Rv.RivAt.ac); (focus assumption); (focus kln_le))
  | (with_reducible apply Rv.nin_nil)
  | ((with_reducible apply Rv.BokAt.ext); (focus assumption); (focus kln_le))
  | ((with_reducible apply Rv.DicAt.ne); (focus assumption); (focus keq_hits); (focus (intro _ z; cases z)))
  | ((with_reducible apply Rv.DicAt.nf); (focus assumption); (focus keq_hits))
  | ((with_reducible apply Rv.Ext.tup); (focus assumption))
  | ((with_reducible apply Rv.Ac.tup); (focus assumption))
  | ((with_reducible apply Rv.nin_cons); (focus kln_le); (focus kln_le))
  | (with_reducible apply Rv.frs_nil)
  | ((with_reducible apply Rv.frs_cons); (focus kln_le); (focus kln_le))
  | ((with_reducible apply Ne.symm); (focus assumption))
  | ((with_reducible apply Rv.ne_nf); (focus assumption); (focus keq_hits))
  | ((with_reducible apply Rv.ne_fn); (focus assumption); (focus keq_hits))
  | ((with_reducible apply Rv.ne_k1); (focus assumption); (focus keq_hits); (focus (first | (intro z; cases z; done) | ((with_reducible apply Rv.ins_ne); intro z; cases z; done))))
  | ((with_reducible apply Rv.ne_k2); (focus assumption); (focus keq_hits); (focus (first | (intro z; cases z; done) | ((with_reducible apply Rv.ins_ne); intro z; cases z; done))))
  | ((with_reducible apply Rv.free2); (focus assumption); (focus keq_hits))
  | (with_reducible apply Rv.Ac.refl)
  | ((with_reducible apply Rv.Ac.step'); (focus assumption); (focus kln_le))
  | ((with_reducible apply Rv.Ac.but'); (focus assumption); (focus kln_le); (focus kln_le))
  | (with_reducible apply Rv.Ext.refl)
  | ((with_reducible apply Rv.Ac.ext); (focus kln_le))
  | ((with_reducible apply Rv.sz_le); first | omega | (simp only [List.length_cons, List.length_nil, List.length_map, List.length_append]; omega))
  | ((with_reducible apply Rv.sz_lt); first | omega | (simp only [List.length_cons, List.length_nil, List.length_map, List.length_append]; omega)))
local macro_rules | `(tactic| lcg_sub) => `(tactic| first
  | assumption
  | ((with_reducible apply Rv.Ext.hl); (focus assumption); (focus lcg_sub))
  | ((with_reducible apply Rv.But.hl); (focus assumption); (focus lcg_sub); (focus lcg_sub))
  | ((with_reducible apply Rv.Ac.hl); (focus assumption); (focus lcg_sub))
  | ((with_reducible apply L2.SqL.of); (focus assumption))
  | ((with_reducible apply Rv.Ext.sq); (focus assumption); (focus lcg_sub))
  | ((with_reducible apply Rv.But.sq); (focus assumption); (focus lcg_sub); (focus lcg_sub))
  | ((with_reducible apply Rv.Ac.sq); (focus assumption); (focus lcg_sub))
  | ((with_reducible apply L2.SqT.of); (focus assumption))
  | ((with_reducible apply Rv.Ext.st); (focus assumption); (focus lcg_sub))
  | ((with_reducible apply Rv.But.st); (focus assumption); (focus lcg_sub); (focus lcg_sub))
  | ((with_reducible apply Rv.Ac.st); (focus assumption); (focus lcg_sub))
  | ((with_reducible apply L2.Rd.of); (focus lcg_sub))
  | ((with_reducible apply Rv.RivAt.ext); (focus assumption); (focus lcg_sub))
  | ((with_reducible apply Rv.RivAt.but); (focus assumption); (focus lcg_sub); (focus lcg_sub); (focus lcg_sub))
  | ((with_reducible apply Rv.RivAt.ac); (focus assumption); (focus lcg_sub))
  | (with_reducible apply Rv.nin_nil)
  | ((with_reducible apply Rv.BokAt.ext); (focus assumption); (focus lcg_sub))
  | ((with_reducible apply Rv.DicAt.ne); (focus assumption); (focus kln_le); (focus (intro _ z; cases z)))
  | ((with_reducible apply Rv.DicAt.nf); (focus assumption); (focus kln_le))
  | ((with_reducible apply Rv.Ext.tup); (focus assumption))
  | ((with_reducible apply Rv.Ac.tup); (focus assumption))
  | ((with_reducible apply Rv.nin_cons); (focus lcg_sub); (focus lcg_sub))
  | (with_reducible apply Rv.frs_nil)
  | ((with_reducible apply Rv.frs_cons); (focus lcg_sub); (focus lcg_sub))
  | ((with_reducible apply Ne.symm); (focus assumption))
  | ((with_reducible apply Rv.ne_nf); (focus assumption); (focus kln_le))
  | ((with_reducible apply Rv.ne_fn); (focus assumption); (focus kln_le))
  | ((with_reducible apply Rv.ne_k1); (focus assumption); (focus kln_le); (focus (first | (intro z; cases z; done) | ((with_reducible apply Rv.ins_ne); intro z; cases z; done))))
  | ((with_reducible apply Rv.ne_k2); (focus assumption); (focus kln_le); (focus (first | (intro z; cases z; done) | ((with_reducible apply Rv.ins_ne); intro z; cases z; done))))
  | ((with_reducible apply Rv.free2); (focus assumption); (focus kln_le))
  | (with_reducible apply Rv.Ac.refl)
  | ((with_reducible apply Rv.Ac.step'); (focus assumption); (focus lcg_sub))
  | ((with_reducible apply Rv.Ac.but'); (focus assumption); (focus lcg_sub); (focus lcg_sub))
  | (with_reducible apply Rv.Ext.refl)
  | ((with_reducible apply Rv.Ac.ext); (focus lcg_sub))
  | ((with_reducible apply Rv.sz_le); first | omega | (simp only [List.length_cons, List.length_nil, List.length_map, List.length_append]; omega))
  | ((with_reducible apply Rv.sz_lt); first | omega | (simp only [List.length_cons, List.length_nil, List.length_map, List.length_append]; omega)))
local macro_rules | `(tactic| lcg_off) => `(tactic| first
  | (with_reducible apply Rv.r_seq)
  | (with_reducible apply Rv.r_asg)
  | (with_reducible apply Rv.r_op)
  | ((with_reducible apply Rv.r_var); (focus with_unfolding_all rfl))
  | (with_reducible apply Rv.r_c)
  | (with_reducible apply Rv.r_if)
  | (with_reducible apply Rv.r_test)
  | (with_reducible apply Rv.r_fld)
  | (with_reducible apply Rv.r_cons)
  | (with_reducible apply Rv.r_nil)
  | (with_reducible apply Rv.r_ret)
  | (with_reducible apply Rv.r_drop)
  | (with_reducible apply Rv.r_meth)
  | (with_reducible apply Rv.r_fn)
  | (with_reducible apply Rv.r_CB)
  | (with_reducible apply Rv.r_BM)
  | (with_reducible apply Rv.r_BM0)
  | (with_reducible apply Rv.k_bl)
  | (with_reducible apply Rv.r_not)
  | (with_reducible apply Rv.r_and)
  | (with_reducible apply Rv.r_or)
  | (with_reducible apply Rv.k_andT)
  | (with_reducible apply Rv.k_andF)
  | (with_reducible apply Rv.k_orT)
  | (with_reducible apply Rv.k_orF)
  | (with_reducible apply Rv.r_tB)
  | (with_reducible apply Rv.r_chain)
  | (with_reducible apply Rv.r_un)
  | (with_reducible apply Rv.r_tup)
  | (with_reducible apply Rv.r_lst)
  | (with_reducible apply Rv.r_andV)
  | (with_reducible apply Rv.r_orV)
  | (with_reducible apply Rv.r_notV)
  | (with_reducible apply Rv.r_ifE)
  | (with_reducible apply Rv.k_notV)
  | (with_reducible apply Rv.k_andVT)
  | (with_reducible apply Rv.k_andVF)
  | (with_reducible apply Rv.k_orVT)
  | (with_reducible apply Rv.k_orVF)
  | (with_reducible apply Rv.k_addI)
  | (with_reducible apply Rv.k_subI)
  | ((with_reducible apply Rv.k_mulI); (focus (unfold L2.CMul; omega)))
  | ((with_reducible apply Rv.k_divI); (focus (unfold L2.CDiv; omega)))
  | ((with_reducible apply Rv.k_modI); (focus omega))
  | ((with_reducible apply Rv.k_powI); (focus (unfold L2.CPow; decide)))
  | (with_reducible apply Rv.k_negI)
  | (with_reducible apply Rv.k_ltI)
  | (with_reducible apply Rv.k_leI)
  | (with_reducible apply Rv.k_gtI)
  | (with_reducible apply Rv.k_geI)
  | (with_reducible apply Rv.k_eqI)
  | (with_reducible apply Rv.k_neI)
  | (with_reducible apply Rv.k_eqS)
  | (with_reducible apply Rv.k_neS)
  | (with_reducible apply Rv.k_isNN)
  | (with_reducible apply Rv.k_isNI)
  | (with_reducible apply Rv.k_isNR)
  | (with_reducible apply Rv.k_notNN)
  | (with_reducible apply Rv.k_notNI)
  | (with_reducible apply Rv.k_notNR)
  | ((with_reducible apply Rv.k_tyL); (focus lcg_sub))
  | ((with_reducible apply Rv.k_ixT); (focus lcg_sub); (focus with_unfolding_all rfl))
  | ((with_reducible apply Rv.k_ixL); (focus lcg_sub); (focus with_unfolding_all rfl))
  | ((with_reducible apply Rv.k_lenL); (focus lcg_sub))
  | ((with_reducible apply Rv.k_lenU); (focus lcg_sub))
  | ((with_reducible apply Rv.k_tup); (focus lcg_sub))
  | ((with_reducible apply Rv.k_lst); (focus lcg_sub))
  | ((with_reducible apply Rv.k_list); (focus lcg_sub))
  | ((with_reducible apply Rv.k_append); (focus lcg_sub); (focus lcg_sub))
  | ((with_reducible apply Rv.k_cat); (focus lcg_sub); (focus lcg_sub); (focus lcg_sub))
  | ((with_reducible apply Rv.k_clear); (focus lcg_sub))
  | (with_reducible apply Rv.k_int1)
  | (with_reducible apply Rv.k_max2)
  | (with_reducible apply Rv.k_min2)
  | (with_reducible apply Rv.k_str)
  | (with_reducible apply Rv.k_part)
  | (with_reducible apply Rv.r_M1)
  | (with_reducible apply Rv.r_dget)
  | (with_reducible apply Rv.r_din)
  | (with_reducible apply Rv.r_dnotin)
  | (with_reducible apply Rv.r_dget2)
  | (with_reducible apply Rv.r_sl)
  | (with_reducible apply Rv.r_nopart)
  | (with_reducible apply Rv.r_part)
  | (with_reducible apply Rv.r_for)
  | (with_reducible apply Rv.r_lc)
  | (with_reducible apply Rv.r_yes)
  | (with_reducible apply Rv.r_iList)
  | (with_reducible apply Rv.r_iRng1)
  | (with_reducible apply Rv.r_iRng2)
  | (with_reducible apply Rv.r_iZip)
  | (with_reducible apply Rv.r_iStr)
  | (with_reducible apply Rv.r_iKeys)
  | (with_reducible apply Rv.r_lstRg)
  | ((with_reducible apply Rv.k_itl); (focus lcg_sub))
  | ((with_reducible apply Rv.k_zip); (focus lcg_sub); (focus lcg_sub))
  | ((with_reducible apply Rv.k_rng1); (focus omega))
  | ((with_reducible apply Rv.k_rng2); (focus omega))
  | (with_reducible apply Rv.k_its)
  | (with_reducible apply Rv.r_retN)
  | (with_reducible apply Rv.r_next)
  | (with_reducible apply Rv.r_setF)
  | (with_reducible apply Rv.r_dput)
  | (with_reducible apply Rv.r_setI)
  | (with_reducible apply Rv.r_raise)
  | (with_reducible apply Rv.r_wF)
  | (with_reducible apply Rv.k_ifTT)
  | (with_reducible apply Rv.k_ifFF)
  | (with_reducible apply Rv.k_ifNT)
  | (with_reducible apply Rv.k_ifNF)
  | (with_reducible apply Rv.k_andNT)
  | (with_reducible apply Rv.k_andNF)
  | (with_reducible apply Rv.k_orNT)
  | (with_reducible apply Rv.k_orNF)
  | (with_reducible apply Rv.k_andVNT)
  | (with_reducible apply Rv.k_andVNF)
  | (with_reducible apply Rv.k_orVNT)
  | (with_reducible apply Rv.k_orVNF)
  | (with_reducible apply Rv.k_isB_ii)
  | (with_reducible apply Rv.k_isB_ib)
  | (with_reducible apply Rv.k_isB_bi)
  | (with_reducible apply Rv.k_isB_bb)
  | (with_reducible apply Rv.k_isB_ni)
  | (with_reducible apply Rv.k_isB_ss)
  | ((with_reducible apply Rv.k_isB_ll); (focus lcg_sub))
  | ((with_reducible apply Rv.k_isB_tt); (focus lcg_sub))
  | (with_reducible apply Rv.r_mk)
  | (with_reducible apply Rv.r_rg1)
  | (with_reducible apply Rv.k_rg1)
  | (with_reducible apply Rv.r_dpop1)
  | (with_reducible apply Rv.k_ifNNT)
  | (with_reducible apply Rv.k_ifNNF)
  | (with_reducible apply Rv.r_dropE)
  | (with_reducible apply Rv.r_dropR)
  | (with_reducible apply Rv.r_dropN)
  | (with_reducible apply Rv.r_dropM))
namespace Rv
open PySem L2
open SX (S S_inj S_len S_cat join_S num_S S_tl lens split_S int_S)
-- l_odd: 0 word 1 cell 2 some
def t_l_odd (c : Cs) (E : XK) : TS :=
  (tSeq (tAsg (tLst (tCons (tC (.str "")) (tCons (tC (.str "-")) (tCons (tOp rCatS (tC (.str "0")) (tVar 0)) (tCons (tOp rCatS (tC (.str "+")) (tVar 0)) (tCons (tOp rCatS (tVar 0) (tC (.str " "))) (tCons (tC (.str "At")) (tCons (tC (.str "at")) (tCons (tC (.str "1000001")) (tCons (tC (.str "10000")) (tCons (tC (.str "-1")) (tCons (tC (.str "a b")) (tCons (tC (.str "A")) tNil))))))))))))) (gName 2))
  (tSeq (tAsg (tOp rCat (tVar 2) (tLst (tCons (tC (.str "abcdefghi")) (tCons (tOp rCatS (tVar 0) (tC (.str "."))) (tCons (tC (.str "1_0")) (tCons (tOp rRepS (tC (.str "9")) (tOp rAddI (tC (.int 8)) (tOp rModI (tOp rDivI (tVar 1) (tC (.int 16))) (tC (.int 300))))) tNil)))))) (gName 2))
  (tRet (tOp (rIxL c.K) (tVar 2) (tOp rModI (tVar 1) (tC (.int 16)))))))
-- l_turned: 0 lines 1 way 2 cell 3 other 4 rows 5 at 6 words 7 place 8 text
def t_l_turned (c : Cs) (E : XK) : TS :=
  (tSeq (tAsg (tCB (rListS c.K) (tCons (tVar 0) tNil)) (gName 4))
  (tSeq (tAsg (tOp rModI (tVar 2) (tCB (rLenS c.K) (tCons (tVar 4) tNil))) (gName 5))
  (tSeq (tAsg (tM1 rSplit (tOp (rIxL c.K) (tVar 4) (tVar 5)) (tC (.str " "))) (gName 6))
  (tSeq (tIfS (tOr (tTest (tOp rEq (tVar 1) (tC (.int 0)))) (tTest (tOp rEq (tVar 1) (tC (.int 1))))) (tSeq (tAsg (tOp rModI (tOp rDivI (tVar 2) (tC (.int 7))) (tCB (rLenS c.K) (tCons (tVar 6) tNil))) (gName 7))
  (tSeq (tAsg (tFn (sp_l_odd c) (wF E) (tCons (tOp (rIxL c.K) (tVar 6) (tVar 7)) (tCons (tVar 3) tNil))) (gSub (tVar 6) (tVar 7) rSetL))
  (tAsg (tM1 (rJoin c.K) (tC (.str " ")) (tVar 6)) (gSub (tVar 4) (tVar 5) rSetL)))) tNext)
  (tSeq (tIfS (tTest (tOp rEq (tVar 1) (tC (.int 2)))) (tSeq (tAsg (tOp (rIxL c.K) (tVar 0) (tUn rNegI (tC (.int 1)))) (gSub (tVar 4) (tVar 5) rSetL))
  (tAsg (tOp (rIxL c.K) (tVar 0) (tVar 5)) (gSub (tVar 4) (tUn rNegI (tC (.int 1))) rSetL))) tNext)
  (tSeq (tIfS (tTest (tOp rEq (tVar 1) (tC (.int 3)))) (tDrop (tBM c.K "list" rInsert (tVar 4) (tCons (tVar 5) (tCons (tOp (rIxL c.K) (tVar 4) (tUn rNegI (tC (.int 1)))) tNil)))) tNext)
  (tSeq (tIfS (tTest (tOp rEq (tVar 1) (tC (.int 4)))) (tDrop (tBM c.K "list" rPopAt (tVar 4) (tCons (tC (.int 0)) tNil))) tNext)
  (tSeq (tAsg (tM1 (rJoin c.K) (tC (.str "\n")) (tVar 4)) (gName 8))
  (tSeq (tIfS (tOr (tTest (tOp rEq (tVar 1) (tC (.int 5)))) (tTest (tOp rEq (tVar 1) (tC (.int 6))))) (tSeq (tAsg (tOp rModI (tVar 3) (tOp rAddI (tCB rLenT (tCons (tVar 8) tNil)) (tC (.int 1)))) (gName 7))
  (tAsg (tOp rCatS (tOp rCatS (tSl rSlS (tVar 8) tNoPart (tPart (tVar 7))) (tOp (rIxL c.K) (tLst (tCons (tC (.str " ")) (tCons (tC (.str "\n")) tNil))) (tOp rModI (tVar 2) (tC (.int 2))))) (tSl rSlS (tVar 8) (tPart (tVar 7)) tNoPart)) (gName 8))) tNext)
  (tRet (tVar 8)))))))))))
section
variable {c : Cs}
theorem pure_l_odd (vs : List V) (H : Hp) (Q : VK) (E : XK) (h : sp_l_odd c vs H Q E) : t_l_odd c E { nx := fun _ H' => Q .non H', rt := Q } (start ["word", "cell", "some"] vs) H := by
  obtain ⟨w, cl, rfl, hw, aw, k⟩ := h
  unfold t_l_odd
  rw [emptyS, dashS, zeroS, spaceS, show Str.ofString "+" = S [43] by decide +kernel, show Str.ofString "At" = S [65, 116] by decide +kernel, show Str.ofString "at" = S [97, 116] by decide +kernel, show Str.ofString "1000001" = S [49, 48, 48, 48, 48, 48, 49] by decide +kernel, show Str.ofString "10000" = S [49, 48, 48, 48, 48] by decide +kernel,
    show Str.ofString "-1" = S [45, 49] by decide +kernel, show Str.ofString "a b" = S [97, 32, 98] by decide +kernel, show Str.ofString "A" = S [65] by decide +kernel, show Str.ofString "abcdefghi" = S [97, 98, 99, 100, 101, 102, 103, 104, 105] by decide +kernel, show Str.ofString "." = S [46] by decide +kernel, show Str.ofString "1_0" = S [49, 95, 48] by decide +kernel, show Str.ofString "9" = S [57] by decide +kernel]
  repeat lcg_off
  refine k_catL (by rw [List.length_cons, List.length_nil]; omega) ?_
  repeat lcg_off
  refine k_catL (by rw [List.length_cons, List.length_nil]; omega) ?_
  repeat lcg_off
  refine k_catL (by rw [List.length_cons, List.length_nil]; omega) ?_
  repeat lcg_off
  intro q1 H1 hq1 e1 h1
  repeat lcg_off
  refine k_catL (by rw [List.length_cons, List.length_nil]; omega) ?_
  repeat lcg_off
  have m0 := Int.emod_nonneg (cl / 16) (show (300 : Int) ≠ 0 by omega)
  have m1 := Int.emod_lt_of_pos (cl / 16) (show (0 : Int) < 300 by omega)
  refine k_repOne (by omega) (by omega) ?_
  repeat lcg_off
  intro q2 H2 hq2 e2 h2
  repeat lcg_off
  intro q3 H3 hq3 e3 h3
  repeat lcg_off
  have h3' : H3 q3 = some (.lst (((oddL w (8 + cl / 16 % 300).toNat).map S).map V.str)) := h3
  have c0 := Int.emod_nonneg cl (show (16 : Int) ≠ 0 by omega)
  have c1 := Int.emod_lt_of_pos cl (show (0 : Int) < 16 by omega)
  obtain ⟨n, hn⟩ := Int.eq_ofNat_of_zero_le c0
  rw [hn]
  have hol : (oddL w (8 + cl / 16 % 300).toNat).length = 16 := rfl
  have hok := odd_ok (n := (8 + cl / 16 % 300).toNat) (by omega) aw
  generalize oddL w (8 + cl / 16 % 300).toNat = U at h3' hol hok
  have gn : U[n]? = some U[n] := List.getElem?_eq_getElem (by omega)
  obtain ⟨o1, o2⟩ := hok U[n] (List.getElem_mem _)
  refine k_ixL (SqL.of h3') (str_at U n _ gn) ?_
  exact k _ H3 o1 o2 ((e1.trans e2).trans e3)
/-- the rows, while they are turned; those from way k on are as they were -/
def TurnP (p r w i : Nat) (way cl ot : Int) (L : List (List Nat)) (H1 : Hp) (k : Int) : L2.St → Hp → Prop := fun σ H => (∃ v7, σ = [some (.ref p), some (.int way), some (.int cl), some (.int ot), some (.ref r), some (.int (i : Int)), some (.ref w), v7, none]) ∧ But [w, r] H1 H ∧
  ∃ L' : List (List Nat), H r = some (.lst ((L'.map S).map V.str)) ∧ (∀ x ∈ L', asc x) ∧ tot L' ≤ 880 ∧ (k ≤ way → L' = L)
theorem k_joinT {K : PySem.W.Frag} {ch : Nat} {p : Addr} {W : List (List Nat)} {H : Hp} {Q : VK} (h : SqL K H p ((W.map S).map V.str)) (hz : tot W ≤ 100000) (q : Q (.str (S (TL.joinL [ch] W))) H) : rJoin K (.str (S [ch])) [.ref p] H Q := by
  refine k_join (ys := W.map S) h ?_ ?_
  · rw [lens, List.length_map, S_len]
    show _ + _ * 1 ≤ _
    have hz' : (W.map (·.length)).sum + W.length ≤ 100000 := hz
    omega
  · rw [join_S]
    exact q
theorem joinL_le (s : Nat) (ps : List (List Nat)) : (TL.joinL [s] ps).length ≤ tot ps := by
  cases ps with
  | nil => exact Nat.zero_le _
  | cons p ps =>
    have := joinL_tot s (ps := p :: ps) (by simp)
    omega
theorem str_last {L : List (List Nat)} {x : List Nat} (h : L[L.length - 1]? = some x) : atI ((L.map S).map V.str) (-1) = some (.str (S x)) := by
  have h0 := get_lt h
  unfold atI
  rw [ixN_last (by rw [List.length_map, List.length_map]; omega)]
  show ((L.map S).map V.str)[_]? = _
  rw [List.length_map, List.length_map, List.getElem?_map, List.getElem?_map, h]
  rfl
theorem set_strs (L : List (List Nat)) (i : Nat) (x : List Nat) : ((L.map S).map V.str).set i (.str (S x)) = ((L.set i x).map S).map V.str := by
  rw [List.map_set, List.map_set]
theorem asc_set {L : List (List Nat)} {x : List Nat} (h : ∀ y ∈ L, asc y) (hx : asc x) (i : Nat) : ∀ y ∈ L.set i x, asc y := fun y hy => by
  rcases List.mem_or_eq_of_mem_set hy with z | z
  · exact h y z
  · rw [z]
    exact hx
theorem pure_l_turned (vs : List V) (H : Hp) (Q : VK) (E : XK) (h : sp_l_turned c vs H Q E) : t_l_turned c E { nx := fun _ H' => Q .non H', rt := Q } (start ["lines", "way", "cell", "other", "rows", "at", "words", "place", "text"] vs) H := by
  obtain ⟨p, L, way, cl, ot, rfl, hp, hne, hL10, hL, hLt, k⟩ := h
  have hL0 : 0 < L.length := List.length_pos_iff.mpr hne
  have m0 := Int.emod_nonneg cl (show (L.length : Int) ≠ 0 by omega)
  have m1 := Int.emod_lt_of_pos cl (show (0 : Int) < L.length by omega)
  unfold t_l_turned
  rw [spaceS, lineS]
  repeat lcg_off
  intro r H1 hr e1 h1
  repeat lcg_off
  rw [List.length_map, List.length_map]
  refine k_modI (by omega) ?_
  obtain ⟨i, hi⟩ := Int.eq_ofNat_of_zero_le m0
  rw [hi] at m1 ⊢
  have g0 : L[i]? = some L[i] := List.getElem?_eq_getElem (by omega)
  have hLi := hL L[i] (List.getElem_mem _)
  generalize L[i] = li at g0 hLi
  repeat lcg_off
  refine k_ixL (SqL.of h1) (str_at L i li g0) ?_
  repeat lcg_off
  refine k_split (by decide) (by decide) (by omega) fun w H2 hw e2 h2 => ?_
  have hwt := tot_spl 32 li
  have hwne := spl1_ne 32 li []
  have hwa := asc_spl (s := 32) hLi.1
  generalize TL.spl [32] 0 [] li = W at h2 hwt hwne hwa
  have hW0 : 0 < W.length := List.length_pos_iff.mpr hwne
  have hr2 := e2.g _ _ h1
  have hp2 := e2.g _ _ (e1.g _ _ hp)
  have npr : p ≠ r := ne_nf hr hp
  have npw : p ≠ w := ne_nf hw (e1.g _ _ hp)
  have nrw : r ≠ w := ne_nf hw h1
  have hLa : ∀ x ∈ L, asc x := fun x hx => (hL x hx).1
  have gl : L[L.length - 1]? = some L[L.length - 1] := List.getElem?_eq_getElem (by omega)
  have hll := hL L[L.length - 1] (List.getElem_mem _)
  generalize L[L.length - 1] = ll at gl hll
  have hpn : p ∉ [w, r] := nin_cons npw (nin_cons npr nin_nil)
  repeat lcg_off
  refine k_orP (decide (way = 1)) (fun QB q => by (repeat lcg_off); exact q) ?_
  rw [or_dec]
  refine k_ifP (TurnP p r w i way cl ot L H2 2) ?_ (fun hb M hM => ?_) (fun hb M hM => ?_)
  rotate_left
  · have hb' := of_decide_eq_true hb
    repeat lcg_off
    rw [List.length_map, List.length_map]
    refine k_modI (by omega) ?_
    have j0 := Int.emod_nonneg (cl / 7) (show (W.length : Int) ≠ 0 by omega)
    have j1 := Int.emod_lt_of_pos (cl / 7) (show (0 : Int) < W.length by omega)
    obtain ⟨j, hj⟩ := Int.eq_ofNat_of_zero_le j0
    rw [hj] at j1 ⊢
    have gj : W[j]? = some W[j] := List.getElem?_eq_getElem (by omega)
    have hwj := len_tot (List.getElem_mem (l := W) (n := j) (by omega))
    have haj := hwa W[j] (List.getElem_mem _)
    generalize W[j] = wj at gj hwj haj
    repeat lcg_off
    refine k_ixL (SqL.of h2) (str_at W j wj gj) ?_
    repeat lcg_off
    refine ⟨wj, ot, rfl, by omega, haj, fun u H3 hu au e3 => ?_⟩
    repeat lcg_off
    refine k_setI (k := j) (e3.g _ _ h2) (ixN_at (by rw [List.length_map, List.length_map]; omega)) fun H4 b4 h4 => ?_
    rw [set_strs] at h4
    have t4 := tot_set W j u
    have hr4 := b4.g _ _ (e3.g _ _ hr2) (nin_cons nrw nin_nil)
    repeat lcg_off
    refine k_joinT (SqL.of h4) (by omega) ?_
    have jl := joinL_le 32 (W.set j u)
    have ja := asc_join (s := [32]) (by unfold asc; decide) (asc_set hwa au j)
    generalize TL.joinL [32] (W.set j u) = x at jl ja
    repeat lcg_off
    refine k_setI (k := i) hr4 (ixN_at (by rw [List.length_map, List.length_map]; omega)) fun H5 b5 h5 => ?_
    rw [set_strs] at h5
    have t5 := tot_set L i x
    repeat lcg_off
    exact hM _ _ ⟨⟨_, rfl⟩, ((e3.but (S := [w, r])).trans (b4.mono fun y hy => by rw [List.mem_singleton.mp hy]; exact List.mem_cons_self)).trans (b5.mono fun y hy => by rw [List.mem_singleton.mp hy]; exact List.mem_cons_of_mem _ List.mem_cons_self), _, h5, asc_set hLa ja i, by omega, fun z => by omega⟩
  · repeat lcg_off
    exact hM _ _ ⟨⟨_, rfl⟩, (Ext.refl _).but, L, hr2, hLa, by omega, fun _ => rfl⟩
  rintro σ' H3 ⟨⟨v7, rfl⟩, b3, L3, h3, a3, t3, k3⟩
  repeat lcg_off
  refine k_ifP (TurnP p r w i way cl ot L H2 3) ?_ (fun hb M hM => ?_) (fun hb M hM => ?_)
  rotate_left
  · have hb' := of_decide_eq_true hb
    obtain rfl := k3 (by omega)
    have hp3 := b3.g _ _ hp2 hpn
    repeat lcg_off
    refine k_ixL (SqL.of hp3) (str_last gl) ?_
    repeat lcg_off
    refine k_setI (k := i) h3 (ixN_at (by rw [List.length_map, List.length_map]; omega)) fun H5 b5 h5 => ?_
    rw [set_strs] at h5
    have t5 := tot_set L3 i ll
    have hp5 := b5.g _ _ hp3 (nin_cons npr nin_nil)
    repeat lcg_off
    refine k_ixL (SqL.of hp5) (str_at L3 i li g0) ?_
    repeat lcg_off
    refine k_setI (k := L3.length - 1) h5 (by rw [ixN_last (by rw [List.length_map, List.length_map, List.length_set]; omega), List.length_map, List.length_map, List.length_set]) fun H6 b6 h6 => ?_
    rw [set_strs] at h6
    have t6 := tot_set (L3.set i ll) (L3.length - 1) li
    have hbr : ∀ {G G' : Hp}, But [r] G G' → But [w, r] G G' := fun b => b.mono fun y hy => by rw [List.mem_singleton.mp hy]; exact List.mem_cons_of_mem _ List.mem_cons_self
    repeat lcg_off
    exact hM _ _ ⟨⟨_, rfl⟩, (b3.trans (hbr b5)).trans (hbr b6), _, h6, asc_set (asc_set a3 hll.1 i) hLi.1 _, by omega, fun z => by omega⟩
  · have hb' := of_decide_eq_false hb
    repeat lcg_off
    exact hM _ _ ⟨⟨_, rfl⟩, b3, L3, h3, a3, t3, fun z => k3 (by omega)⟩
  rintro σ' H4 ⟨⟨v7, rfl⟩, b4, L4, h4, a4, t4, k4⟩
  repeat lcg_off
  refine k_ifP (TurnP p r w i way cl ot L H2 4) ?_ (fun hb M hM => ?_) (fun hb M hM => ?_)
  rotate_left
  · have hb' := of_decide_eq_true hb
    obtain rfl := k4 (by omega)
    repeat lcg_off
    refine k_ixL (SqL.of h4) (str_last gl) ?_
    repeat lcg_off
    refine k_insert h4 (sz_lt (by rw [List.length_map, List.length_map]; omega)) (by omega) fun H5 b5 h5 => ?_
    have h5' : H5 r = some (.lst (((L4.take i ++ [ll] ++ L4.drop i).map S).map V.str)) := by
      rw [h5]
      simp [List.map_take, List.map_drop]
    have t5 : tot (L4.take i ++ [ll] ++ L4.drop i) = tot L4 + ll.length + 1 := by
      have := tot_take L4 i
      rw [tot_app, tot_app, tot_cons]
      show _ + (_ + 0 + 1) + _ = _
      omega
    repeat lcg_off
    refine hM _ _ ⟨⟨_, rfl⟩, b4.trans (b5.mono fun y hy => by rw [List.mem_singleton.mp hy]; exact List.mem_cons_of_mem _ List.mem_cons_self), _, h5', fun x hx => ?_, by omega, fun z => by omega⟩
    rcases List.mem_append.mp hx with hx | hx
    · rcases List.mem_append.mp hx with hx | hx
      · exact a4 x (List.mem_of_mem_take hx)
      · rw [List.mem_singleton.mp hx]
        exact hll.1
    · exact a4 x (List.mem_of_mem_drop hx)
  · have hb' := of_decide_eq_false hb
    repeat lcg_off
    exact hM _ _ ⟨⟨_, rfl⟩, b4, L4, h4, a4, t4, fun z => k4 (by omega)⟩
  rintro σ' H5 ⟨⟨v7, rfl⟩, b5, L5, h5, a5, t5, k5⟩
  repeat lcg_off
  refine k_ifP (TurnP p r w i way cl ot L H2 5) ?_ (fun hb M hM => ?_) (fun hb M hM => ?_)
  rotate_left
  · have hb' := of_decide_eq_true hb
    obtain rfl := k5 (by omega)
    cases L5 with
    | nil => exact absurd rfl hne
    | cons y L5 =>
    repeat lcg_off
    refine k_pop0 (y := .str (S y)) (xs := (L5.map S).map V.str) h5 fun H6 b6 h6 => ?_
    have t6 := tot_cons y L5
    repeat lcg_off
    exact hM _ _ ⟨⟨_, rfl⟩, b5.trans (b6.mono fun y hy => by rw [List.mem_singleton.mp hy]; exact List.mem_cons_of_mem _ List.mem_cons_self), L5, h6, fun x hx => a5 x (List.mem_cons_of_mem _ hx), by omega, fun z => by omega⟩
  · have hb' := of_decide_eq_false hb
    repeat lcg_off
    exact hM _ _ ⟨⟨_, rfl⟩, b5, L5, h5, a5, t5, fun z => k5 (by omega)⟩
  rintro σ' H6 ⟨⟨v7, rfl⟩, b6, L6, h6, a6, t6, _⟩
  have e6 : Ext H H6 := ((e1.trans e2).ac.but b6 (frs_cons (e1.free hw) (frs_cons hr frs_nil))).ext
  repeat lcg_off
  refine k_joinT (SqL.of h6) (by omega) ?_
  have tl := joinL_le 10 L6
  have ta := asc_join (s := [10]) (by unfold asc; decide) a6
  generalize TL.joinL [10] L6 = T at tl ta
  repeat lcg_off
  refine k_orP (decide (way = 6)) (fun QB q => by (repeat lcg_off); exact q) ?_
  refine k_ifP (fun σ' H' => ∃ v7 T', σ' = [some (.ref p), some (.int way), some (.int cl), some (.int ot), some (.ref r), some (.int (i : Int)), some (.ref w), v7, some (.str (S T'))] ∧ Ext H H' ∧ T'.length ≤ 890 ∧ asc T') ?_ (fun hb M hM => ?_) (fun hb M hM => ?_)
  rotate_left
  · have hl : (S T).length ≤ sizeLine := by rw [S_len]; exact sz_le (by omega)
    have hSl : (S T).length = T.length := S_len T
    repeat lcg_off
    refine k_lenT hl ?_
    rw [hSl]
    repeat lcg_off
    have j0 := Int.emod_nonneg ot (show (T.length : Int) + 1 ≠ 0 by omega)
    have j1 := Int.emod_lt_of_pos ot (show (0 : Int) < (T.length : Int) + 1 by omega)
    obtain ⟨j, hj⟩ := Int.eq_ofNat_of_zero_le j0
    rw [hj] at j1 ⊢
    repeat lcg_off
    refine k_slS hl ?_
    rw [cut_to (show j ≤ T.length by omega)]
    repeat lcg_off
    intro q7 H7 hq7 e7 h7
    repeat lcg_off
    have n0 := Int.emod_nonneg cl (show (2 : Int) ≠ 0 by omega)
    have n1 := Int.emod_lt_of_pos cl (show (0 : Int) < 2 by omega)
    obtain ⟨n, hn⟩ := Int.eq_ofNat_of_zero_le n0
    rw [hn]
    have h7' : H7 q7 = some (.lst ((([[32], [10]] : List (List Nat)).map S).map V.str)) := h7
    obtain ⟨x, gx, hx, ax⟩ : ∃ x, ([[32], [10]] : List (List Nat))[n]? = some x ∧ x.length = 1 ∧ asc x := by
      rcases (by omega : n = 0 ∨ n = 1) with rfl | rfl
      · exact ⟨[32], rfl, rfl, by unfold asc; decide⟩
      · exact ⟨[10], rfl, rfl, by unfold asc; decide⟩
    refine k_ixL (SqL.of h7') (str_at _ n x gx) ?_
    have l1 : (T.take j).length ≤ T.length := by rw [List.length_take]; omega
    have l2 : (T.drop j).length ≤ T.length := by rw [List.length_drop]; omega
    refine k_catL (by omega) ?_
    repeat lcg_off
    refine k_slS hl ?_
    rw [cut_from (show j ≤ T.length by omega)]
    refine k_catL (by rw [List.length_append]; omega) ?_
    repeat lcg_off
    refine hM _ _ ⟨_, _, rfl, e6.trans e7, ?_, asc_app (asc_app (fun y hy => ta y (List.mem_of_mem_take hy)) ax) fun y hy => ta y (List.mem_of_mem_drop hy)⟩
    rw [List.length_append, List.length_append, List.length_take, List.length_drop]
    omega
  · repeat lcg_off
    exact hM _ _ ⟨_, T, rfl, e6, by omega, ta⟩
  rintro σ' H7 ⟨v7, T7, rfl, e7, l7, a7⟩
  repeat lcg_off
  exact k T7 H7 (by omega) a7 e7
end
end Rv

end
section
namespace Rv
open PySem L2
open SX (S S_inj S_len S_cat join_S num_S S_tl lens split_S int_S)
def sp_l_refused_k27 (c : Cs) : Sp := fun vs H Q E => ∃ z, vs = [.str (S z)] ∧ z.length ≤ 900 ∧ ¬ Good z ∧ ∀ H', Ext H H' → Q (.bl true) H'
def sp_law_k27 := sp_law
theorem rights_okN {ns : List Int} {st : Int} {size n : Nat} (h1 : 1 ≤ size) (h2 : size ≤ 40) : ∀ w ∈ rightsM ns st size n, okN w := fun w hw => by
  have ha := rightsM_am hw
  have hd := rightsM_dt hw
  have hp := rightsM_pts h1 hw
  obtain ⟨k, _, rfl⟩ := List.mem_map.mp hw
  have hl : (nameL (cell ns 1) k).length ≤ 8 ∧ 1 ≤ (nameL (cell ns 1) k).length := by
    rw [nameL_len]
    have := stemL_len (cell ns 1)
    omega
  refine ⟨⟨?_, ha.1, ha.2, hd.1, hd.2, by omega⟩, hl.2, hl.1, fun x hx => let_mem.mpr (nameL_az hx)⟩
  show (S (nameL _ _)).length ≤ 8
  rw [S_len]
  exact hl.1
theorem head_small {B : List Nat} (hB : Riv B) (h : B.length ≤ 7) : (headL B).length ≤ 69 := by
  have hw := head_words hB
  unfold headL
  rw [joinL_cons, List.length_append]
  have h2 := tails_len (s := [32]) (k := 7) (ys := [45] :: B.map TL.numL) fun y hy => hw y (List.mem_cons_of_mem _ hy)
  have h3 : ([32] : List Nat).length = 1 := rfl
  have h4 : riverL.length = 5 := rfl
  rw [h3, List.length_cons, List.length_map] at h2
  omega
theorem head_asc (B : List Nat) : asc (headL B) := asc_join (by unfold asc; decide) fun y hy => by
  rcases List.mem_cons.mp hy with e | hy
  · rw [e]
    unfold asc
    decide
  rcases List.mem_cons.mp hy with e | hy
  · rw [e]
    unfold asc
    decide
  obtain ⟨q, _, rfl⟩ := List.mem_map.mp hy
  exact numL_asc q
theorem line_asc {w : Rw} (h : okN w) : asc (lineL w) := asc_join (by unfold asc; decide) fun y hy => by
  unfold wordsL at hy
  simp only [List.mem_cons, List.not_mem_nil, or_false] at hy
  rcases hy with z | z | z | z | z | z | z <;> rw [z]
  · intro x hx
    have := let_mem.mp (h.2.2.2 x hx)
    omega
  · unfold asc
    decide
  · exact numL_asc _
  · unfold asc
    decide
  · exact numL_asc _
  · unfold asc
    decide
  · exact numL_asc _
theorem tot_lines : ∀ {M : List Rw}, (∀ w ∈ M, okN w) → tot (M.map lineL) ≤ 63 * M.length
  | [], _ => Nat.le_refl _
  | w :: M, h => by
    have := tot_lines fun u hu => h u (List.mem_cons_of_mem w hu)
    have := line_len (h w List.mem_cons_self).1
    rw [List.map_cons, tot_cons, List.length_cons]
    omega
end Rv
local macro_rules | `(tactic| lcg_src) => `(tactic| first
  | assumption
  | (with_reducible exact Rv.lk_here)
  | (refine (Rv.lk_past (by decide +kernel)).trans ?_; lcg_src)
  | (with_unfolding_all exact rfl))
local macro_rules | `(tactic| keq_hits) => `(tactic| first
  | assumption
  | ((with_reducible apply Rv.Ext.hl); (focus assumption); (focus keq_hits))
  | ((with_reducible apply Rv.But.hl); (focus assumption); (focus keq_hits); (focus keq_hits))
  | ((with_reducible apply Rv.Ac.hl); (focus assumption); (focus keq_hits))
  | ((with_reducible apply L2.SqL.of); (focus assumption))
  | ((with_reducible apply Rv.Ext.sq); (focus assumption); (focus keq_hits))
  | ((with_reducible apply Rv.But.sq); (focus assumption); (focus keq_hits); (focus keq_hits))
  | ((with_reducible apply Rv.Ac.sq); (focus assumption); (focus keq_hits))
  | ((with_reducible apply L2.SqT.of); (focus assumption))
  | ((with_reducible apply Rv.Ext.st); (focus assumption); (focus keq_hits))
  | ((with_reducible apply Rv.But.st); (focus assumption); (focus keq_hits); (focus keq_hits))
  | ((with_reducible apply Rv.Ac.st); (focus assumption); (focus keq_hits))
  | ((with_reducible apply L2.Rd.of); (focus keq_hits))
  | ((with_reducible apply Rv.RivAt.ext); (focus assumption); (focus keq_hits))
  | ((with_reducible apply Rv.RivAt.but); (focus assumption); (focus keq_hits); (focus keq_hits); (focus keq_hits))
  | ((with_reducible apply Rv.RivAt.ac); (focus assumption); (focus keq_hits))
  | (with_reducible apply Rv.nin_nil)
  | ((with_reducible apply Rv.BokAt.ext); (focus assumption); (focus keq_hits))
  | ((with_reducible apply Rv.DicAt.ne); (focus assumption); (focus assumption); (focus (intro _ z; cases z)))
  | ((with_reducible apply Rv.DicAt.nf); (focus assumption); (focus assumption))
  | ((with_reducible apply Rv.Ext.tup); (focus assumption))
  | ((with_reducible apply Rv.Ac.tup); (focus assumption))
  | ((with_reducible apply Rv.nin_cons); (focus keq_hits); (focus keq_hits))
  | (with_reducible apply Rv.frs_nil)
  | ((with_reducible apply Rv.frs_cons); (focus keq_hits); (focus keq_hits))
  | ((with_reducible apply Ne.symm); (focus assumption))
  | ((with_reducible apply Rv.ne_nf); (focus assumption); (focus assumption))
  | ((with_reducible apply Rv.ne_fn); (focus assumption); (focus assumption))
  | ((with_reducible apply Rv.ne_k1); (focus assumption); (focus assumption); (focus (first | (intro z; cases z; done) | ((with_reducible apply Rv.ins_ne); intro z; cases z; done))))
  | ((with_reducible apply Rv.ne_k2); (focus assumption); (focus assumption); (focus (first | (intro z; cases z; done) | ((with_reducible apply Rv.ins_ne); intro z; cases z; done))))
  | ((with_reducible apply Rv.free2); (focus assumption); (focus assumption))
  | (with_reducible apply Rv.Ac.refl)
  | ((with_reducible apply Rv.Ac.step'); (focus assumption); (focus keq_hits))
  | ((with_reducible apply Rv.Ac.but'); (focus assumption); (focus keq_hits); (focus keq_hits))
  | (with_reducible apply Rv.Ext.refl)
  | ((with_reducible apply Rv.Ac.ext); (focus keq_hits))
  | ((with_reducible apply Rv.sz_le); first | omega | (simp only [List.length_cons, List.length_nil, List.length_map, List.length_append]; omega))
  | ((with_reducible apply Rv.sz_lt); first | omega | (simp only [List.length_cons, List.length_nil, List.length_map, List.length_append]; omega)))
local macro_rules | `(tactic| kln_le) => `(tactic| first
  | assumption
  | ((with_reducible apply Rv.Ext.hl); (focus assumption); (focus kln_le))
  | ((with_reducible apply Rv.But.hl); (focus assumption); (focus kln_le); (focus kln_le))
  | ((with_reducible apply Rv.Ac.hl); (focus assumption); (focus kln_le))
  | ((with_reducible apply L2.SqL.of); (focus assumption))
  | ((with_reducible apply Rv.Ext.sq); (focus assumption); (focus kln_le))
  | ((with_reducible apply Rv.But.sq); (focus assumption); (focus kln_le); (focus kln_le))
  | ((with_reducible apply Rv.Ac.sq); (focus assumption); (focus kln_le))
  | ((with_reducible apply L2.SqT.of); (focus assumption))
  | ((with_reducible apply Rv.Ext.st); (focus assumption); (focus kln_le))
  | ((with_reducible apply Rv.But.st); (focus assumption); (focus kln_le); (focus kln_le))
  | ((with_reducible apply Rv.Ac.st); (focus assumption); (focus kln_le))
  | ((with_reducible apply L2.Rd.of); (focus kln_le))
  | ((with_reducible apply Rv.RivAt.ext); (focus assumption); (focus kln_le))
  | ((with_reducible apply Rv.RivAt.but); (focus assumption); (focus kln_le); (focus kln_le); (focus kln_le))
  | ((with_reducible apply Rv.RivAt.ac); (focus assumption); (focus kln_le))
  | (with_reducible apply Rv.nin_nil)
  | ((with_reducible apply Rv.BokAt.ext); (focus assumption); (focus kln_le))
  | ((with_reducible apply Rv.DicAt.ne); (focus assumption); (focus keq_hits); (focus (intro _ z; cases z)))
  | ((with_reducible apply Rv.DicAt.nf); (focus assumption); (focus keq_hits))
  | ((with_reducible apply Rv.Ext.tup); (focus assumption))
  | ((with_reducible apply Rv.Ac.tup); (focus assumption))
  | ((with_reducible apply Rv.nin_cons); (focus kln_le); (focus kln_le))
  | (with_reducible apply Rv.frs_nil)
  | ((with_reducible apply Rv.frs_cons); (focus kln_le); (focus kln_le))
  | ((with_reducible apply Ne.symm); (focus assumption))
  | ((with_reducible apply Rv.ne_nf); (focus assumption); (focus keq_hits))
  | ((with_reducible apply Rv.ne_fn); (focus assumption); (focus keq_hits))
  | ((with_reducible apply Rv.ne_k1); (focus assumption); (focus keq_hits); (focus (first | (intro z; cases z; done) | ((with_reducible apply Rv.ins_ne); intro z; cases z; done))))
  | ((with_reducible apply Rv.ne_k2); (focus assumption); (focus keq_hits); (focus (first | (intro z; cases z; done) | ((with_reducible apply Rv.ins_ne); intro z; cases z; done))))
  | ((with_reducible apply Rv.free2); (focus assumption); (focus keq_hits))
  | (with_reducible apply Rv.Ac.refl)
  | ((with_reducible apply Rv.Ac.step'); (focus assumption); (focus kln_le))
  | ((with_reducible apply Rv.Ac.but'); (focus assumption); (focus kln_le); (focus kln_le))
  | (with_reducible apply Rv.Ext.refl)
  | ((with_reducible apply Rv.Ac.ext); (focus kln_le))
  | ((with_reducible apply Rv.sz_le); first | omega | (simp only [List.length_cons, List.length_nil, List.length_map, List.length_append]; omega))
  | ((with_reducible apply Rv.sz_lt); first | omega | (simp only [List.length_cons, List.length_nil, List.length_map, List.length_append]; omega)))
local macro_rules | `(tactic| lcg_sub) => `(tactic| first
  | assumption
  | ((with_reducible apply Rv.Ext.hl); (focus assumption); (focus lcg_sub))
  | ((with_reducible apply Rv.But.hl); (focus assumption); (focus lcg_sub); (focus lcg_sub))
  | ((with_reducible apply Rv.Ac.hl); (focus assumption); (focus lcg_sub))
  | ((with_reducible apply L2.SqL.of); (focus assumption))
  | ((with_reducible apply Rv.Ext.sq); (focus assumption); (focus lcg_sub))
  | ((with_reducible apply Rv.But.sq); (focus assumption); (focus lcg_sub); (focus lcg_sub))
  | ((with_reducible apply Rv.Ac.sq); (focus assumption); (focus lcg_sub))
  | ((with_reducible apply L2.SqT.of); (focus assumption))
  | ((with_reducible apply Rv.Ext.st); (focus assumption); (focus lcg_sub))
  | ((with_reducible apply Rv.But.st); (focus assumption); (focus lcg_sub); (focus lcg_sub))
  | ((with_reducible apply Rv.Ac.st); (focus assumption); (focus lcg_sub))
  | ((with_reducible apply L2.Rd.of); (focus lcg_sub))
  | ((with_reducible apply Rv.RivAt.ext); (focus assumption); (focus lcg_sub))
  | ((with_reducible apply Rv.RivAt.but); (focus assumption); (focus lcg_sub); (focus lcg_sub); (focus lcg_sub))
  | ((with_reducible apply Rv.RivAt.ac); (focus assumption); (focus lcg_sub))
  | (with_reducible apply Rv.nin_nil)
  | ((with_reducible apply Rv.BokAt.ext); (focus assumption); (focus lcg_sub))
  | ((with_reducible apply Rv.DicAt.ne); (focus assumption); (focus kln_le); (focus (intro _ z; cases z)))
  | ((with_reducible apply Rv.DicAt.nf); (focus assumption); (focus kln_le))
  | ((with_reducible apply Rv.Ext.tup); (focus assumption))
  | ((with_reducible apply Rv.Ac.tup); (focus assumption))
  | ((with_reducible apply Rv.nin_cons); (focus lcg_sub); (focus lcg_sub))
  | (with_reducible apply Rv.frs_nil)
  | ((with_reducible apply Rv.frs_cons); (focus lcg_sub); (focus lcg_sub))
  | ((with_reducible apply Ne.symm); (focus assumption))
  | ((with_reducible apply Rv.ne_nf); (focus assumption); (focus kln_le))
  | ((with_reducible apply Rv.ne_fn); (focus assumption); (focus kln_le))
  | ((with_reducible apply Rv.ne_k1); (focus assumption); (focus kln_le); (focus (first | (intro z; cases z; done) | ((with_reducible apply Rv.ins_ne); intro z; cases z; done))))
  | ((with_reducible apply Rv.ne_k2); (focus assumption); (focus kln_le); (focus (first | (intro z; cases z; done) | ((with_reducible apply Rv.ins_ne); intro z; cases z; done))))
  | ((with_reducible apply Rv.free2); (focus assumption); (focus kln_le))
  | (with_reducible apply Rv.Ac.refl)
  | ((with_reducible apply Rv.Ac.step'); (focus assumption); (focus lcg_sub))
  | ((with_reducible apply Rv.Ac.but'); (focus assumption); (focus lcg_sub); (focus lcg_sub))
  | (with_reducible apply Rv.Ext.refl)
  | ((with_reducible apply Rv.Ac.ext); (focus lcg_sub))
  | ((with_reducible apply Rv.sz_le); first | omega | (simp only [List.length_cons, List.length_nil, List.length_map, List.length_append]; omega))
  | ((with_reducible apply Rv.sz_lt); first | omega | (simp only [List.length_cons, List.length_nil, List.length_map, List.length_append]; omega)))
local macro_rules | `(tactic| lcg_off) => `(tactic| first
  | (with_reducible apply Rv.r_seq)
  | (with_reducible apply Rv.r_asg)
  | (with_reducible apply Rv.r_op)
  | ((with_reducible apply Rv.r_var); (focus with_unfolding_all rfl))
  | (with_reducible apply Rv.r_c)
  | (with_reducible apply Rv.r_if)
  | (with_reducible apply Rv.r_test)
  | (with_reducible apply Rv.r_fld)
  | (with_reducible apply Rv.r_cons)
  | (with_reducible apply Rv.r_nil)
  | (with_reducible apply Rv.r_ret)
  | (with_reducible apply Rv.r_drop)
  | (with_reducible apply Rv.r_meth)
  | (with_reducible apply Rv.r_fn)
  | (with_reducible apply Rv.r_CB)
  | (with_reducible apply Rv.r_BM)
  | (with_reducible apply Rv.r_BM0)
  | (with_reducible apply Rv.k_bl)
  | (with_reducible apply Rv.r_not)
  | (with_reducible apply Rv.r_and)
  | (with_reducible apply Rv.r_or)
  | (with_reducible apply Rv.k_andT)
  | (with_reducible apply Rv.k_andF)
  | (with_reducible apply Rv.k_orT)
  | (with_reducible apply Rv.k_orF)
  | (with_reducible apply Rv.r_tB)
  | (with_reducible apply Rv.r_chain)
  | (with_reducible apply Rv.r_un)
  | (with_reducible apply Rv.r_tup)
  | (with_reducible apply Rv.r_lst)
  | (with_reducible apply Rv.r_andV)
  | (with_reducible apply Rv.r_orV)
  | (with_reducible apply Rv.r_notV)
  | (with_reducible apply Rv.r_ifE)
  | (with_reducible apply Rv.k_notV)
  | (with_reducible apply Rv.k_andVT)
  | (with_reducible apply Rv.k_andVF)
  | (with_reducible apply Rv.k_orVT)
  | (with_reducible apply Rv.k_orVF)
  | (with_reducible apply Rv.k_addI)
  | (with_reducible apply Rv.k_subI)
  | ((with_reducible apply Rv.k_mulI); (focus (unfold L2.CMul; omega)))
  | ((with_reducible apply Rv.k_divI); (focus (unfold L2.CDiv; omega)))
  | ((with_reducible apply Rv.k_modI); (focus omega))
  | ((with_reducible apply Rv.k_powI); (focus (unfold L2.CPow; decide)))
  | (with_reducible apply Rv.k_negI)
  | (with_reducible apply Rv.k_ltI)
  | (with_reducible apply Rv.k_leI)
  | (with_reducible apply Rv.k_gtI)
  | (with_reducible apply Rv.k_geI)
  | (with_reducible apply Rv.k_eqI)
  | (with_reducible apply Rv.k_neI)
  | (with_reducible apply Rv.k_eqS)
  | (with_reducible apply Rv.k_neS)
  | (with_reducible apply Rv.k_isNN)
  | (with_reducible apply Rv.k_isNI)
  | (with_reducible apply Rv.k_isNR)
  | (with_reducible apply Rv.k_notNN)
  | (with_reducible apply Rv.k_notNI)
  | (with_reducible apply Rv.k_notNR)
  | ((with_reducible apply Rv.k_tyL); (focus lcg_sub))
  | ((with_reducible apply Rv.k_ixT); (focus lcg_sub); (focus with_unfolding_all rfl))
  | ((with_reducible apply Rv.k_ixL); (focus lcg_sub); (focus with_unfolding_all rfl))
  | ((with_reducible apply Rv.k_lenL); (focus lcg_sub))
  | ((with_reducible apply Rv.k_lenU); (focus lcg_sub))
  | ((with_reducible apply Rv.k_tup); (focus lcg_sub))
  | ((with_reducible apply Rv.k_lst); (focus lcg_sub))
  | ((with_reducible apply Rv.k_list); (focus lcg_sub))
  | ((with_reducible apply Rv.k_append); (focus lcg_sub); (focus lcg_sub))
  | ((with_reducible apply Rv.k_cat); (focus lcg_sub); (focus lcg_sub); (focus lcg_sub))
  | ((with_reducible apply Rv.k_clear); (focus lcg_sub))
  | (with_reducible apply Rv.k_int1)
  | (with_reducible apply Rv.k_max2)
  | (with_reducible apply Rv.k_min2)
  | (with_reducible apply Rv.k_str)
  | (with_reducible apply Rv.k_part)
  | (with_reducible apply Rv.r_M1)
  | (with_reducible apply Rv.r_dget)
  | (with_reducible apply Rv.r_din)
  | (with_reducible apply Rv.r_dnotin)
  | (with_reducible apply Rv.r_dget2)
  | (with_reducible apply Rv.r_sl)
  | (with_reducible apply Rv.r_nopart)
  | (with_reducible apply Rv.r_part)
  | (with_reducible apply Rv.r_for)
  | (with_reducible apply Rv.r_lc)
  | (with_reducible apply Rv.r_yes)
  | (with_reducible apply Rv.r_iList)
  | (with_reducible apply Rv.r_iRng1)
  | (with_reducible apply Rv.r_iRng2)
  | (with_reducible apply Rv.r_iZip)
  | (with_reducible apply Rv.r_iStr)
  | (with_reducible apply Rv.r_iKeys)
  | (with_reducible apply Rv.r_lstRg)
  | ((with_reducible apply Rv.k_itl); (focus lcg_sub))
  | ((with_reducible apply Rv.k_zip); (focus lcg_sub); (focus lcg_sub))
  | ((with_reducible apply Rv.k_rng1); (focus omega))
  | ((with_reducible apply Rv.k_rng2); (focus omega))
  | (with_reducible apply Rv.k_its)
  | (with_reducible apply Rv.r_retN)
  | (with_reducible apply Rv.r_next)
  | (with_reducible apply Rv.r_setF)
  | (with_reducible apply Rv.r_dput)
  | (with_reducible apply Rv.r_setI)
  | (with_reducible apply Rv.r_raise)
  | (with_reducible apply Rv.r_wF)
  | (with_reducible apply Rv.k_ifTT)
  | (with_reducible apply Rv.k_ifFF)
  | (with_reducible apply Rv.k_ifNT)
  | (with_reducible apply Rv.k_ifNF)
  | (with_reducible apply Rv.k_andNT)
  | (with_reducible apply Rv.k_andNF)
  | (with_reducible apply Rv.k_orNT)
  | (with_reducible apply Rv.k_orNF)
  | (with_reducible apply Rv.k_andVNT)
  | (with_reducible apply Rv.k_andVNF)
  | (with_reducible apply Rv.k_orVNT)
  | (with_reducible apply Rv.k_orVNF)
  | (with_reducible apply Rv.k_isB_ii)
  | (with_reducible apply Rv.k_isB_ib)
  | (with_reducible apply Rv.k_isB_bi)
  | (with_reducible apply Rv.k_isB_bb)
  | (with_reducible apply Rv.k_isB_ni)
  | (with_reducible apply Rv.k_isB_ss)
  | ((with_reducible apply Rv.k_isB_ll); (focus lcg_sub))
  | ((with_reducible apply Rv.k_isB_tt); (focus lcg_sub))
  | (with_reducible apply Rv.r_mk)
  | (with_reducible apply Rv.r_rg1)
  | (with_reducible apply Rv.k_rg1)
  | (with_reducible apply Rv.r_dpop1)
  | (with_reducible apply Rv.k_ifNNT)
  | (with_reducible apply Rv.k_ifNNF)
  | (with_reducible apply Rv.r_dropE)
  | (with_reducible apply Rv.r_dropR)
  | (with_reducible apply Rv.r_dropN)
  | (with_reducible apply Rv.r_dropM))
namespace Rv
open PySem L2
open SX (S S_inj S_len S_cat join_S num_S S_tl lens split_S int_S)
-- l_refused_k27: 0 text 1 bad 2 e 3 other
def t_l_refused_k27 (c : Cs) (E : XK) : TS :=
  (tSeq (tAsg (tC (.bl false)) (gName 1))
  (tSeq (tTryAs c.K c.badText 2 (fun W1 => (tDrop (tFn (sp_readX c) W1 (tCons (tVar 0) tNil)))) (fun a cls d => (tSeq (tAsg (tOrV (tCB (rIsX c.K a cls d) (tCons (tVar 2) (tCons (tC (.ref c.badRiver)) tNil))) (tOrV (tCB (rIsX c.K a cls d) (tCons (tVar 2) (tCons (tC (.ref c.noPoint)) tNil))) (tCB (rIsX c.K a cls d) (tCons (tVar 2) (tCons (tC (.ref c.taken)) tNil))))) (gName 3))
  (tAsg (tAndV (tCB (rIsX c.K a cls d) (tCons (tVar 2) (tCons (tC (.ref c.dueError)) tNil))) (tNotV (tVar 3))) (gName 1)))) (wF E))
  (tRet (tVar 1))))
-- law_k27: 0 script 1 size 2 below 3 rights 4 lines 5 cell 6 text
def t_law_k27 (c : Cs) (E : XK) : TS :=
  (tSeq (tAsg (tOp rAddI (tC (.int 1)) (tOp rModI (tFn (sp_l_cell_at c) (wF E) (tCons (tVar 0) (tCons (tC (.int 0)) tNil))) (tC (.int 8)))) (gName 1))
  (tSeq (tAsg (tFn (sp_l_below c) (wF E) (tCons (tVar 0) (tCons (tC (.int 2)) (tCons (tVar 1) tNil)))) (gName 2))
  (tSeq (tAsg (tFn (sp_l_rights c) (wF E) (tCons (tVar 0) (tCons (tC (.int 18)) (tCons (tOp rAddI (tC (.int 1)) (tOp rModI (tOp rDivI (tFn (sp_l_cell_at c) (wF E) (tCons (tVar 0) (tCons (tC (.int 0)) tNil))) (tC (.int 8))) (tC (.int 4)))) (tCons (tVar 1) tNil))))) (gName 3))
  (tSeq (tAsg (tM1 rSplit (tFn (sp_l_text c) (wF E) (tCons (tVar 2) (tCons (tVar 3) tNil))) (tC (.str "\n"))) (gName 4))
  (tSeq (tAsg (tFn (sp_l_cell_at c) (wF E) (tCons (tVar 0) (tCons (tC (.int 35)) tNil))) (gName 5))
  (tSeq (tAsg (tFn (sp_l_turned c) (wF E) (tCons (tVar 4) (tCons (tOp rModI (tFn (sp_l_cell_at c) (wF E) (tCons (tVar 0) (tCons (tC (.int 34)) tNil))) (tC (.int 8))) (tCons (tVar 5) (tCons (tFn (sp_l_cell_at c) (wF E) (tCons (tVar 0) (tCons (tC (.int 36)) tNil))) tNil))))) (gName 6))
  (tSeq (tIfS (tNot (tB (tFn (sp_l_good c) (wF E) (tCons (tVar 6) tNil)))) (tRet (tFn (sp_l_refused_k27 c) (wF E) (tCons (tVar 6) tNil))) tNext)
  (tRet (tOp rEq (tFn (sp_shown c) (wF E) (tCons (tFn (sp_readX c) (wF E) (tCons (tVar 6) tNil)) tNil)) (tVar 6))))))))))
section
variable {c : Cs}
theorem pure_l_refused_k27 (m1 : PySem.W.exmOne c.K (.ref c.badText) (.ref c.badText) = some true) (x1 : ExcC c.K c.badText) (i1 : PySem.W.kitOne c.K (.ref c.badText) (.ref c.badRiver) = some false) (i2 : PySem.W.kitOne c.K (.ref c.badText) (.ref c.noPoint) = some false)
    (i3 : PySem.W.kitOne c.K (.ref c.badText) (.ref c.taken) = some false) (i4 : PySem.W.kitOne c.K (.ref c.badText) (.ref c.dueError) = some true)
    (vs : List V) (H : Hp) (Q : VK) (E : XK) (h : sp_l_refused_k27 c vs H Q E) : t_l_refused_k27 c E { nx := fun _ H' => Q .non H', rt := Q } (start ["text", "bad", "e", "other"] vs) H := by
  obtain ⟨z, rfl, hz, hbad, k⟩ := h
  unfold t_l_refused_k27
  repeat lcg_off
  show tDrop _ _ _ _
  repeat lcg_off
  refine ⟨z, rfl, .inr ⟨hz, hbad, fun H' e => ?_⟩⟩
  refine ⟨true, m1, fun _ a ha => ?_, fun z => by cases z⟩
  repeat lcg_off
  refine k_isX x1 i1 ?_
  repeat lcg_off
  refine k_isX x1 i2 ?_
  repeat lcg_off
  refine k_isX x1 i3 ?_
  repeat lcg_off
  refine k_isX x1 i4 ?_
  repeat lcg_off
  exact k H' e
theorem pure_law_k27 (vs : List V) (H : Hp) (Q : VK) (E : XK) (h : sp_law_k27 c vs H Q E) : t_law_k27 c E { nx := fun _ H' => Q .non H', rt := Q } (start ["script", "size", "below", "rights", "lines", "cell", "text"] vs) H := by
  obtain ⟨a, ns, rfl, hs, hlen, k⟩ := h
  have c0 := Int.emod_nonneg (cell ns 0) (show (8 : Int) ≠ 0 by omega)
  have c1 := Int.emod_lt_of_pos (cell ns 0) (show (0 : Int) < 8 by omega)
  unfold t_law_k27
  rw [lineS]
  repeat lcg_off
  refine ⟨a, ns, _, rfl, by lcg_sub, by omega, ?_⟩
  repeat lcg_off
  obtain ⟨n, hn⟩ := Int.eq_ofNat_of_zero_le (show 0 ≤ 1 + cell ns 0 % 8 by omega)
  rw [hn]
  refine ⟨a, ns, _, _, rfl, by lcg_sub, by omega, by omega, by omega, ?_⟩
  intro b H1 hb e1 h1
  rw [Int.toNat_natCast] at h1
  have hB := belM_riv ns 2 (n := n) (by omega)
  have hL := belM_len ns 2 n
  generalize belM ns 2 n = B at h1 hB hL
  have en : n = B.length + 1 := by omega
  repeat lcg_off
  refine ⟨a, ns, _, rfl, by lcg_sub, by omega, ?_⟩
  repeat lcg_off
  have d0 := Int.emod_nonneg (cell ns 0 / 8) (show (4 : Int) ≠ 0 by omega)
  have d1 := Int.emod_lt_of_pos (cell ns 0 / 8) (show (0 : Int) < 4 by omega)
  obtain ⟨m, hm⟩ := Int.eq_ofNat_of_zero_le (show 0 ≤ 1 + cell ns 0 / 8 % 4 by omega)
  rw [hm]
  refine ⟨a, ns, _, n, m, rfl, by lcg_sub, by omega, by omega, by omega, ?_⟩
  intro p H3 hp e3 A3
  have hRn := rightsM_nd (ns := ns) (st := 18) (size := (n : Int)) (n := m) (by omega)
  have hRl := rightsM_len ns 18 n m
  have hRo := rights_okN (ns := ns) (st := 18) (n := m) (show 1 ≤ n by omega) (show n ≤ 40 by omega)
  generalize rightsM ns 18 n m = R at A3 hRn hRl hRo
  have h1' : H3 b = some (.lst (belV B)) := e3.g _ _ h1
  have hal := agedR_len R
  repeat lcg_off
  refine ⟨b, p, B, R, rfl, SqL.of h1', hB, A3, hRn, fun w hw => (hRo w hw).1, by omega, fun H4 e4 => ?_⟩
  have htl := text_len hB (fun w hw => (hRo w hw).1) (show R.length ≤ 1000 by omega)
  repeat lcg_off
  refine k_split (by decide) (by decide) (by omega) fun q H5 hq e5 h5 => ?_
  rw [spl_text fun w hw => (hRo w hw).2] at h5
  have hao : ∀ w ∈ agedR R, okN w := fun w hw => hRo w (agedR_mem.mp hw)
  have hhs := head_small hB (by omega)
  have htt := tot_lines hao
  repeat lcg_off
  refine ⟨a, ns, _, rfl, by lcg_sub, by omega, ?_⟩
  repeat lcg_off
  refine ⟨a, ns, _, rfl, by lcg_sub, by omega, ?_⟩
  repeat lcg_off
  refine ⟨a, ns, _, rfl, by lcg_sub, by omega, ?_⟩
  refine ⟨q, headL B :: (agedR R).map lineL, _, _, _, rfl, h5, by simp, by rw [List.length_cons, List.length_map]; omega, fun x hx => ?_, by rw [tot_cons]; omega, fun z H6 hz az e6 => ?_⟩
  · rcases List.mem_cons.mp hx with e | hx
    · rw [e]
      exact ⟨head_asc B, by omega⟩
    · obtain ⟨w, hw, rfl⟩ := List.mem_map.mp hx
      have := line_len (hao w hw).1
      exact ⟨line_asc (hao w hw), by omega⟩
  repeat lcg_off
  refine ⟨z, rfl, hz, az, fun g H7 e7 => ?_, fun g H7 e7 => ?_⟩
  · obtain ⟨B', R', e, hB', nd, ok, hl⟩ := g
    repeat lcg_off
    refine ⟨z, rfl, .inl ⟨B', R', e, hB', nd, ok, hl, fun x r l d H8 hx hr hl2 hd e8 A8 => ?_⟩⟩
    refine ⟨x, r, l, B', d, agedR R', rfl, A8, fun w hw => (ok w (agedR_mem.mp hw)).1, fun H9 e9 => ?_⟩
    repeat lcg_off
    rw [text_aged nd, ← e, decide_eq_true rfl]
    exact k H9
  · repeat lcg_off
    exact ⟨z, rfl, hz, g, fun H8 e8 => k H8⟩
end
end Rv

end
namespace Rv
open PySem PySem.Spec PyProof.Rows L2
/-! ### the text by places -/
def top (i : Nat) : Stmt := PySem.Challenge.pw_riverdue_k27_texts_refused.main.body.getD i (.Pass ⟨0, 0, 0, 0⟩)
abbrev s_l_cell_at : Stmt := top 26
abbrev N_l_cell_at : List Str := ["script", "k"]
theorem sc_l_cell_at : FnScope N_l_cell_at ["script", "k"] (defScope s_l_cell_at) := ⟨rfl, rfl, rfl, by decide +kernel, rfl, by decide +kernel, by decide +kernel⟩
abbrev s_l_below : Stmt := top 27
abbrev N_l_below : List Str := ["script", "start", "size", "k"]
theorem sc_l_below : FnScope N_l_below ["script", "start", "size"] (defScope s_l_below) := ⟨rfl, rfl, rfl, by decide +kernel, rfl, by decide +kernel, by decide +kernel⟩
abbrev s_l_names : Stmt := top 28
abbrev N_l_names : List Str := ["cell", "count", "letters", "stem", "k", "place"]
theorem sc_l_names : FnScope N_l_names ["cell", "count"] (defScope s_l_names) := ⟨rfl, rfl, rfl, by decide +kernel, rfl, by decide +kernel, by decide +kernel⟩
abbrev s_l_rights : Stmt := top 29
abbrev N_l_rights : List Str := ["script", "start", "count", "size", "names", "rights", "k", "amount", "date"]
theorem sc_l_rights : FnScope N_l_rights ["script", "start", "count", "size"] (defScope s_l_rights) := ⟨rfl, rfl, rfl, by decide +kernel, rfl, by decide +kernel, by decide +kernel⟩
abbrev s_l_aged : Stmt := top 30
abbrev N_l_aged : List Str := ["rights", "row", "right"]
theorem sc_l_aged : FnScope N_l_aged ["rights"] (defScope s_l_aged) := ⟨rfl, rfl, rfl, by decide +kernel, rfl, by decide +kernel, by decide +kernel⟩
abbrev s_l_text : Stmt := top 31
abbrev N_l_text : List Str := ["below", "rights", "text", "point", "right"]
theorem sc_l_text : FnScope N_l_text ["below", "rights"] (defScope s_l_text) := ⟨rfl, rfl, rfl, by decide +kernel, rfl, by decide +kernel, by decide +kernel⟩
abbrev s_l_odd : Stmt := top 32
abbrev N_l_odd : List Str := ["word", "cell", "some"]
theorem sc_l_odd : FnScope N_l_odd ["word", "cell"] (defScope s_l_odd) := ⟨rfl, rfl, rfl, by decide +kernel, rfl, by decide +kernel, by decide +kernel⟩
abbrev s_l_turned : Stmt := top 33
abbrev N_l_turned : List Str := ["lines", "way", "cell", "other", "rows", "at", "words", "place", "text"]
theorem sc_l_turned : FnScope N_l_turned ["lines", "way", "cell", "other"] (defScope s_l_turned) := ⟨rfl, rfl, rfl, by decide +kernel, rfl, by decide +kernel, by decide +kernel⟩
abbrev s_l_number : Stmt := top 34
abbrev N_l_number : List Str := ["word", "most", "sign"]
theorem sc_l_number : FnScope N_l_number ["word", "most"] (defScope s_l_number) := ⟨rfl, rfl, rfl, by decide +kernel, rfl, by decide +kernel, by decide +kernel⟩
abbrev s_l_right_line : Stmt := top 35
abbrev N_l_right_line : List Str := ["line", "points", "words", "name", "sign", "found"]
theorem sc_l_right_line : FnScope N_l_right_line ["line", "points"] (defScope s_l_right_line) := ⟨rfl, rfl, rfl, by decide +kernel, rfl, by decide +kernel, by decide +kernel⟩
abbrev s_l_good : Stmt := top 36
abbrev N_l_good : List Str := ["text", "lines", "words", "k", "rights", "line", "names", "right"]
theorem sc_l_good : FnScope N_l_good ["text"] (defScope s_l_good) := ⟨rfl, rfl, rfl, by decide +kernel, rfl, by decide +kernel, by decide +kernel⟩
abbrev s_number : Stmt := top 20
abbrev N_number : List Str := ["word", "most", "sign"]
theorem sc_number : FnScope N_number ["word", "most"] (defScope s_number) := ⟨rfl, rfl, rfl, by decide +kernel, rfl, by decide +kernel, by decide +kernel⟩
abbrev s_River_initN : Stmt := inClass (top 13) 0
abbrev N_River_initN : List Str := ["self", "below", "point"]
theorem sc_River_initN : FnScope N_River_initN ["self", "below"] (defScope s_River_initN) := ⟨rfl, rfl, rfl, by decide +kernel, rfl, by decide +kernel, by decide +kernel⟩
abbrev s_river_ofX : Stmt := top 21
abbrev N_river_ofX : List Str := ["line", "words", "below", "word", "found"]
theorem sc_river_ofX : FnScope N_river_ofX ["line"] (defScope s_river_ofX) := ⟨rfl, rfl, rfl, by decide +kernel, rfl, by decide +kernel, by decide +kernel⟩
abbrev s_Book_init : Stmt := inClass (top 10) 0
abbrev N_Book_init : List Str := ["self", "river"]
theorem sc_Book_init : FnScope N_Book_init ["self", "river"] (defScope s_Book_init) := ⟨rfl, rfl, rfl, by decide +kernel, rfl, by decide +kernel, by decide +kernel⟩
abbrev s_is_name : Stmt := top 22
abbrev N_is_name : List Str := ["word", "sign"]
theorem sc_is_name : FnScope N_is_name ["word"] (defScope s_is_name) := ⟨rfl, rfl, rfl, by decide +kernel, rfl, by decide +kernel, by decide +kernel⟩
abbrev s_Book_names : Stmt := inClass (top 10) 3
abbrev N_Book_names : List Str := ["self", "aged", "name", "pair"]
theorem sc_Book_names : FnScope N_Book_names ["self"] (defScope s_Book_names) := ⟨rfl, rfl, rfl, by decide +kernel, rfl, by decide +kernel, by decide +kernel⟩
abbrev s_Book_river : Stmt := inClass (top 10) 1
abbrev N_Book_river : List Str := ["self"]
theorem sc_Book_river : FnScope N_Book_river ["self"] (defScope s_Book_river) := ⟨rfl, rfl, rfl, by decide +kernel, rfl, by decide +kernel, by decide +kernel⟩
abbrev s_River_points : Stmt := inClass (top 13) 1
abbrev N_River_points : List Str := ["self"]
theorem sc_River_points : FnScope N_River_points ["self"] (defScope s_River_points) := ⟨rfl, rfl, rfl, by decide +kernel, rfl, by decide +kernel, by decide +kernel⟩
abbrev s_Book_free : Stmt := inClass (top 10) 4
abbrev N_Book_free : List Str := ["self", "name"]
theorem sc_Book_free : FnScope N_Book_free ["self", "name"] (defScope s_Book_free) := ⟨rfl, rfl, rfl, by decide +kernel, rfl, by decide +kernel, by decide +kernel⟩
abbrev s_River_below : Stmt := inClass (top 13) 2
abbrev N_River_below : List Str := ["self", "point"]
theorem sc_River_below : FnScope N_River_below ["self", "point"] (defScope s_River_below) := ⟨rfl, rfl, rfl, by decide +kernel, rfl, by decide +kernel, by decide +kernel⟩
abbrev s_Book_grant : Stmt := inClass (top 10) 5
abbrev N_Book_grant : List Str := ["self", "name", "point", "amount", "date"]
theorem sc_Book_grant : FnScope N_Book_grant ["self", "name", "point", "amount", "date"] (defScope s_Book_grant) := ⟨rfl, rfl, rfl, by decide +kernel, rfl, by decide +kernel, by decide +kernel⟩
abbrev s_grantedX : Stmt := top 23
abbrev N_grantedX : List Str := ["book", "line", "words", "point"]
theorem sc_grantedX : FnScope N_grantedX ["book", "line"] (defScope s_grantedX) := ⟨rfl, rfl, rfl, by decide +kernel, rfl, by decide +kernel, by decide +kernel⟩
abbrev s_Book_right : Stmt := inClass (top 10) 2
abbrev N_Book_right : List Str := ["self", "name"]
theorem sc_Book_right : FnScope N_Book_right ["self", "name"] (defScope s_Book_right) := ⟨rfl, rfl, rfl, by decide +kernel, rfl, by decide +kernel, by decide +kernel⟩
abbrev s_shown : Stmt := top 19
abbrev N_shown : List Str := ["book", "river", "below", "point", "lines", "name", "row", "words"]
theorem sc_shown : FnScope N_shown ["book"] (defScope s_shown) := ⟨rfl, rfl, rfl, by decide +kernel, rfl, by decide +kernel, by decide +kernel⟩
abbrev s_readX : Stmt := top 24
abbrev N_readX : List Str := ["text", "lines", "book", "line"]
theorem sc_readX : FnScope N_readX ["text"] (defScope s_readX) := ⟨rfl, rfl, rfl, by decide +kernel, rfl, by decide +kernel, by decide +kernel⟩
abbrev s_l_refused_k27 : Stmt := top 37
abbrev N_l_refused_k27 : List Str := ["text", "bad", "e", "other"]
theorem sc_l_refused_k27 : FnScope N_l_refused_k27 ["text"] (defScope s_l_refused_k27) := ⟨rfl, rfl, rfl, by decide +kernel, rfl, by decide +kernel, by decide +kernel⟩
abbrev s_law_k27 : Stmt := top 38
abbrev N_law_k27 : List Str := ["script", "size", "below", "rights", "lines", "cell", "text"]
theorem sc_law_k27 : FnScope N_law_k27 ["script"] (defScope s_law_k27) := ⟨rfl, rfl, rfl, by decide +kernel, rfl, by decide +kernel, by decide +kernel⟩
structure Txt (c : Cs) (mg : Str → Option Value) : Prop where
  b_int : mg "int" = none
  b_isinstance : mg "isinstance" = none
  b_len : mg "len" = none
  b_list : mg "list" = none
  b_range : mg "range" = none
  b_set : mg "set" = none
  b_sorted : mg "sorted" = none
  b_str : mg "str" = none
  e_BadRiver : ErIn c.K mg "BadRiver" c.badRiver
  e_BadText : ErIn c.K mg "BadText" c.badText
  e_DueError : ErIn c.K mg "DueError" c.dueError
  e_NoPoint : ErIn c.K mg "NoPoint" c.noPoint
  e_NoRight : ErIn c.K mg "NoRight" c.noRight
  e_Taken : ErIn c.K mg "Taken" c.taken
  g_FIGURES : ∃ t, mg "FIGURES" = some (.str "0123456789" t)
  g_LAST_DATE : ∃ t, mg "LAST_DATE" = some (.int 9999 t)
  g_LETTERS : ∃ t, mg "LETTERS" = some (.str "abcdefghijklmnopqrstuvwxyz" t)
  g_MOST_AMOUNT : ∃ t, mg "MOST_AMOUNT" = some (.int 1000000 t)
  g_MOST_POINTS : ∃ t, mg "MOST_POINTS" = some (.int 40 t)
  g_MOST_RIGHTS : ∃ t, mg "MOST_RIGHTS" = some (.int 40 t)
  bok : BookT c
  i_BadText_BadRiver_f : PySem.W.kitOne c.K (.ref c.badText) (.ref c.badRiver) = some false
  i_BadText_DueError_t : PySem.W.kitOne c.K (.ref c.badText) (.ref c.dueError) = some true
  i_BadText_NoPoint_f : PySem.W.kitOne c.K (.ref c.badText) (.ref c.noPoint) = some false
  i_BadText_Taken_f : PySem.W.kitOne c.K (.ref c.badText) (.ref c.taken) = some false
  m_BadRiver_BadRiver_t : PySem.W.exmOne c.K (.ref c.badRiver) (.ref c.badRiver) = some true
  m_BadText_BadText_t : PySem.W.exmOne c.K (.ref c.badText) (.ref c.badText) = some true
  riv : RiverT c
  x_BadText : ExcC c.K c.badText
  ok : True
section
variable {P : Program} {w : World} {mg : Str → Option Value} {base : Heap} {c : Cs} {f : Addr} {fd : FuncData}
theorem d_l_cell_at (T : Txt c mg)  (F : Fun c.K "_law_cell_at" "_law_cell_at" s_l_cell_at f fd) (hm : mg "_law_cell_at" = some (.ref f)) : FnIn P w c.K mg base 1 "_law_cell_at" ["script", "k"] (sp_l_cell_at c) :=
  fn_by (tt := t_l_cell_at c) F hm (F.binds fun _ _ _ _ _ _ us hl => match us, hl with | [_, _], _ => rfl) sc_l_cell_at (by
    intro vs H Q E h
    unfold sp_l_cell_at at h
    repeat (first | (obtain ⟨rfl, h⟩ := h; exact rfl) | obtain ⟨_, h⟩ := h)) (pure_l_cell_at)
    (fun cdv A outer s H E hr tk po => by exact (pss_cons (ps_if (pt_cmpR op_ltI (pv 1) (pe_callB c_lenS (by rfl) T.b_len (by decide +kernel) (pa_cons (pv 0) pa_nil)) (nomark _)) (pss_one (ps_ret (pe_ix ix_list (pv 0) (pv 1) (fun _ _ => rfl)))) pss_nil)
      (pss_one (ps_ret pe_int))))
theorem d_l_below (T : Txt c mg) (G_l_cell_at : FnIn P w c.K mg base 1 "_law_cell_at" ["script", "k"] (sp_l_cell_at c)) (F : Fun c.K "_law_below" "_law_below" s_l_below f fd) (hm : mg "_law_below" = some (.ref f)) : FnIn P w c.K mg base 2 "_law_below" ["script", "start", "size"] (sp_l_below c) :=
  fn_by (tt := t_l_below c) F hm (F.binds fun _ _ _ _ _ _ us hl => match us, hl with | [_, _, _], _ => rfl) sc_l_below (by
    intro vs H Q E h
    unfold sp_l_below at h
    repeat (first | (obtain ⟨rfl, h⟩ := h; exact rfl) | obtain ⟨_, h⟩ := h)) (pure_l_below)
    (fun cdv A outer s H E hr tk po => by exact (pss_one (ps_ret (pe_op op_cat (pe_lst (pa_cons pe_non pa_nil)) (pe_lc (own := [("k", 3)]) (g := (gName 3)) (by rfl) sc_l_below.nd (pi_range2 rfl T.b_range (pa_cons pe_int (pa_cons (pv 2) pa_nil))) (blkOk_by (own := [("k", 3)]) (N := N_l_below) (sc := defScope s_l_below) (by decide +kernel)) (fun _ _ _ _ _ => (pg_name (i := 3) sc_l_below.nd rfl (Or.inl rfl))) (fun _ _ _ _ _ => pts_nil) (fun _ _ _ _ _ => (pe_op op_modI (pe_fn G_l_cell_at (hr.mono (by decide)) takes0 rfl (pa_cons (pv 0) (pa_cons (pe_op op_addI (pv 1) (pv 3)) pa_nil))) (pv 3))))))))
theorem d_l_names (T : Txt c mg)  (F : Fun c.K "_law_names" "_law_names" s_l_names f fd) (hm : mg "_law_names" = some (.ref f)) : FnIn P w c.K mg base 1 "_law_names" ["cell", "count"] (sp_l_names c) :=
  fn_by (tt := t_l_names c) F hm (F.binds fun _ _ _ _ _ _ us hl => match us, hl with | [_, _], _ => rfl) sc_l_names (by
    intro vs H Q E h
    unfold sp_l_names at h
    repeat (first | (obtain ⟨rfl, h⟩ := h; exact rfl) | obtain ⟨_, h⟩ := h)) (pure_l_names)
    (fun cdv A outer s H E hr tk po => by exact (pss_cons (ps_set (i := 2) sc_l_names.nd rfl (by first | exact .inl rfl | exact .inr rfl) pe_str)
      (pss_cons (ps_set (i := 3) sc_l_names.nd rfl (by first | exact .inl rfl | exact .inr rfl) (pe_join pe_str (pe_lc (own := [("k", 4)]) (g := (gName 4)) (by rfl) sc_l_names.nd (pi_range1 rfl T.b_range (pa_cons (pe_op op_modI (pv 0) pe_int) pa_nil)) (blkOk_by (own := [("k", 4)]) (N := N_l_names) (sc := defScope s_l_names) (by decide +kernel)) (fun _ _ _ _ _ => (pg_name (i := 4) sc_l_names.nd rfl (Or.inl rfl))) (fun _ _ _ _ _ => pts_nil) (fun _ _ _ _ _ => (pe_ix ix_str (pv 2) (pe_op op_modI (pe_op op_addI (pe_op op_addI (pe_op op_divI (pv 0) pe_int) (pe_op op_mulI (pe_op op_mulI pe_int (pv 4)) (pv 4))) (pv 4)) pe_int) (fun _ _ => rfl))))))
      (pss_cons (ps_set (i := 5) sc_l_names.nd rfl (by first | exact .inl rfl | exact .inr rfl) (pe_op op_modI (pe_op op_divI (pv 0) pe_int) (pe_op op_addI (pe_callB c_lenT (by rfl) T.b_len (by decide +kernel) (pa_cons (pv 3) pa_nil)) pe_int)))
      (pss_one (ps_ret (pe_lc (own := [("k", 4)]) (g := (gName 4)) (by rfl) sc_l_names.nd (pi_range1 rfl T.b_range (pa_cons (pv 1) pa_nil)) (blkOk_by (own := [("k", 4)]) (N := N_l_names) (sc := defScope s_l_names) (by decide +kernel)) (fun _ _ _ _ _ => (pg_name (i := 4) sc_l_names.nd rfl (Or.inl rfl))) (fun _ _ _ _ _ => pts_nil) (fun _ _ _ _ _ => (pe_op op_catS (pe_op op_catS (pe_slice sl_str (pv 3) po_none (po_some (pv 5))) (pe_ix ix_str (pv 2) (pe_op op_modI (pe_op op_addI (pe_op op_divI (pv 0) pe_int) (pe_op op_mulI pe_int (pv 4))) pe_int) (fun _ _ => rfl))) (pe_slice sl_str (pv 3) (po_some (pv 5)) po_none))))))))))
theorem d_l_rights (T : Txt c mg) (G_l_cell_at : FnIn P w c.K mg base 1 "_law_cell_at" ["script", "k"] (sp_l_cell_at c)) (G_l_names : FnIn P w c.K mg base 1 "_law_names" ["cell", "count"] (sp_l_names c)) (F : Fun c.K "_law_rights" "_law_rights" s_l_rights f fd) (hm : mg "_law_rights" = some (.ref f)) : FnIn P w c.K mg base 2 "_law_rights" ["script", "start", "count", "size"] (sp_l_rights c) :=
  fn_by (tt := t_l_rights c) F hm (F.binds fun _ _ _ _ _ _ us hl => match us, hl with | [_, _, _, _], _ => rfl) sc_l_rights (by
    intro vs H Q E h
    unfold sp_l_rights at h
    repeat (first | (obtain ⟨rfl, h⟩ := h; exact rfl) | obtain ⟨_, h⟩ := h)) (pure_l_rights)
    (fun cdv A outer s H E hr tk po => by exact (pss_cons (ps_set (i := 4) sc_l_rights.nd rfl (by first | exact .inl rfl | exact .inr rfl) (pe_fn G_l_names (hr.mono (by decide)) tk rfl (pa_cons (pe_fn G_l_cell_at (hr.mono (by decide)) tk rfl (pa_cons (pv 0) (pa_cons pe_int pa_nil))) (pa_cons (pv 2) pa_nil))))
      (pss_cons (ps_set (i := 5) sc_l_rights.nd rfl (by first | exact .inl rfl | exact .inr rfl) (pe_lst pa_nil))
      (pss_cons (ps_for po rfl (pi_range1 rfl T.b_range (pa_cons (pv 2) pa_nil)) (pg_name (i := 6) sc_l_rights.nd rfl (by first | exact .inl rfl | exact .inr rfl)) (pss_cons (ps_set (i := 7) sc_l_rights.nd rfl (by first | exact .inl rfl | exact .inr rfl) (pe_fn G_l_cell_at (hr.mono (by decide)) tk rfl (pa_cons (pv 0) (pa_cons (pe_op op_addI (pe_op op_addI (pv 1) (pe_op op_mulI pe_int (pv 6))) pe_int) pa_nil))))
      (pss_cons (ps_set (i := 8) sc_l_rights.nd rfl (by first | exact .inl rfl | exact .inr rfl) (pe_fn G_l_cell_at (hr.mono (by decide)) tk rfl (pa_cons (pv 0) (pa_cons (pe_op op_addI (pe_op op_addI (pv 1) (pe_op op_mulI pe_int (pv 6))) pe_int) pa_nil))))
      (pss_cons (ps_if (pt_cmpR op_eq (pe_op op_modI (pv 7) pe_int) pe_int (nomark _)) (pss_one (ps_set (i := 7) sc_l_rights.nd rfl (by first | exact .inl rfl | exact .inr rfl) (pe_op op_modI (pe_op op_divI (pv 7) pe_int) pe_int))) (pss_one (ps_set (i := 7) sc_l_rights.nd rfl (by first | exact .inl rfl | exact .inr rfl) (pe_op op_modI (pe_op op_divI (pv 7) pe_int) pe_int))))
      (pss_cons (ps_if (pt_cmpR op_eq (pe_op op_modI (pv 8) pe_int) pe_int (nomark _)) (pss_one (ps_set (i := 8) sc_l_rights.nd rfl (by first | exact .inl rfl | exact .inr rfl) (pe_op op_modI (pe_op op_divI (pv 8) pe_int) pe_int))) (pss_one (ps_set (i := 8) sc_l_rights.nd rfl (by first | exact .inl rfl | exact .inr rfl) (pe_op op_modI (pe_op op_divI (pv 8) pe_int) pe_int))))
      (pss_one (ps_expr (pe_bm PySem.F.plainAttrs_list PySem.F.slot_list_append PySem.F.type_list_append mt_append (pv 5) (pa_cons (pe_tup (pa_cons (pe_ix ix_list (pv 4) (pv 6) (fun _ _ => rfl)) (pa_cons (pe_op op_modI (pe_fn G_l_cell_at (hr.mono (by decide)) tk rfl (pa_cons (pv 0) (pa_cons (pe_op op_addI (pv 1) (pe_op op_mulI pe_int (pv 6))) pa_nil))) (pv 3)) (pa_cons (pv 7) (pa_cons (pv 8) pa_nil))))) pa_nil)))))))))
      (pss_one (ps_ret (pv 5)))))))
theorem d_l_aged (T : Txt c mg)  (F : Fun c.K "_law_aged" "_law_aged" s_l_aged f fd) (hm : mg "_law_aged" = some (.ref f)) : FnIn P w c.K mg base 1 "_law_aged" ["rights"] (sp_l_aged c) :=
  fn_by (tt := t_l_aged c) F hm (F.binds fun _ _ _ _ _ _ us hl => match us, hl with | [_], _ => rfl) sc_l_aged (by
    intro vs H Q E h
    unfold sp_l_aged at h
    repeat (first | (obtain ⟨rfl, h⟩ := h; exact rfl) | obtain ⟨_, h⟩ := h)) (pure_l_aged)
    (fun cdv A outer s H E hr tk po => by exact (pss_one (ps_ret (pe_lc (own := [("row", 1)]) (g := (gName 1)) (by rfl) sc_l_aged.nd (pi_list (pe_callB (c_sortedD (hu65 hr)) (by rfl) T.b_sorted (by decide +kernel) (pa_cons (pe_lc (own := [("right", 2)]) (g := (gName 2)) (by rfl) sc_l_aged.nd (pi_list (pv 0)) (blkOk_by (own := [("right", 2)]) (N := N_l_aged) (sc := defScope s_l_aged) (by decide +kernel)) (fun _ _ _ _ _ => (pg_name (i := 2) sc_l_aged.nd rfl (Or.inl rfl))) (fun _ _ _ _ _ => pts_nil) (fun _ _ _ _ _ => (pe_tup (pa_cons (pe_tup (pa_cons (pe_ix ix_tup (pv 2) pe_int (fun _ _ => rfl)) (pa_cons (pe_ix ix_tup (pv 2) pe_int (fun _ _ => rfl)) pa_nil))) (pa_cons (pv 2) pa_nil))))) pa_nil))) (blkOk_by (own := [("row", 1)]) (N := N_l_aged) (sc := defScope s_l_aged) (by decide +kernel)) (fun _ _ _ _ _ => (pg_name (i := 1) sc_l_aged.nd rfl (Or.inl rfl))) (fun _ _ _ _ _ => pts_nil) (fun _ _ _ _ _ => (pe_ix ix_tup (pv 1) pe_int (fun _ _ => rfl)))))))
theorem d_l_text (T : Txt c mg) (G_l_aged : FnIn P w c.K mg base 1 "_law_aged" ["rights"] (sp_l_aged c)) (F : Fun c.K "_law_text" "_law_text" s_l_text f fd) (hm : mg "_law_text" = some (.ref f)) : FnIn P w c.K mg base 2 "_law_text" ["below", "rights"] (sp_l_text c) :=
  fn_by (tt := t_l_text c) F hm (F.binds fun _ _ _ _ _ _ us hl => match us, hl with | [_, _], _ => rfl) sc_l_text (by
    intro vs H Q E h
    unfold sp_l_text at h
    repeat (first | (obtain ⟨rfl, h⟩ := h; exact rfl) | obtain ⟨_, h⟩ := h)) (pure_l_text)
    (fun cdv A outer s H E hr tk po => by exact (pss_cons (ps_set (i := 2) sc_l_text.nd rfl (by first | exact .inl rfl | exact .inr rfl) pe_str)
      (pss_cons (ps_for po rfl (pi_list (pe_slice sl_list (pv 0) (po_some pe_int) po_none)) (pg_name (i := 3) sc_l_text.nd rfl (by first | exact .inl rfl | exact .inr rfl)) (pss_one (ps_set (i := 2) sc_l_text.nd rfl (by first | exact .inl rfl | exact .inr rfl) (pe_op op_catS (pe_op op_catS (pv 2) pe_str) (pe_callTy c_strI (by rfl) T.b_str (by decide +kernel) (pa_cons (pv 3) pa_nil))))))
      (pss_cons (ps_for po rfl (pi_list (pe_fn G_l_aged (hr.mono (by decide)) tk rfl (pa_cons (pv 1) pa_nil))) (pg_name (i := 4) sc_l_text.nd rfl (by first | exact .inl rfl | exact .inr rfl)) (pss_cons (ps_set (i := 2) sc_l_text.nd rfl (by first | exact .inl rfl | exact .inr rfl) (pe_op op_catS (pe_op op_catS (pe_op op_catS (pe_op op_catS (pv 2) pe_str) (pe_ix ix_tup (pv 4) pe_int (fun _ _ => rfl))) pe_str) (pe_callTy c_strI (by rfl) T.b_str (by decide +kernel) (pa_cons (pe_ix ix_tup (pv 4) pe_int (fun _ _ => rfl)) pa_nil))))
      (pss_cons (ps_set (i := 2) sc_l_text.nd rfl (by first | exact .inl rfl | exact .inr rfl) (pe_op op_catS (pe_op op_catS (pv 2) pe_str) (pe_callTy c_strI (by rfl) T.b_str (by decide +kernel) (pa_cons (pe_ix ix_tup (pv 4) pe_int (fun _ _ => rfl)) pa_nil))))
      (pss_one (ps_set (i := 2) sc_l_text.nd rfl (by first | exact .inl rfl | exact .inr rfl) (pe_op op_catS (pe_op op_catS (pv 2) pe_str) (pe_callTy c_strI (by rfl) T.b_str (by decide +kernel) (pa_cons (pe_ix ix_tup (pv 4) pe_int (fun _ _ => rfl)) pa_nil))))))))
      (pss_one (ps_ret (pv 2)))))))
theorem d_l_odd (T : Txt c mg)  (F : Fun c.K "_law_odd" "_law_odd" s_l_odd f fd) (hm : mg "_law_odd" = some (.ref f)) : FnIn P w c.K mg base 1 "_law_odd" ["word", "cell"] (sp_l_odd c) :=
  fn_by (tt := t_l_odd c) F hm (F.binds fun _ _ _ _ _ _ us hl => match us, hl with | [_, _], _ => rfl) sc_l_odd (by
    intro vs H Q E h
    unfold sp_l_odd at h
    repeat (first | (obtain ⟨rfl, h⟩ := h; exact rfl) | obtain ⟨_, h⟩ := h)) (pure_l_odd)
    (fun cdv A outer s H E hr tk po => by exact (pss_cons (ps_set (i := 2) sc_l_odd.nd rfl (by first | exact .inl rfl | exact .inr rfl) (pe_lst (pa_cons pe_str (pa_cons pe_str (pa_cons (pe_op op_catS pe_str (pv 0)) (pa_cons (pe_op op_catS pe_str (pv 0)) (pa_cons (pe_op op_catS (pv 0) pe_str) (pa_cons pe_str (pa_cons pe_str (pa_cons pe_str (pa_cons pe_str (pa_cons pe_str (pa_cons pe_str (pa_cons pe_str pa_nil))))))))))))))
      (pss_cons (ps_set (i := 2) sc_l_odd.nd rfl (by first | exact .inl rfl | exact .inr rfl) (pe_op op_cat (pv 2) (pe_lst (pa_cons pe_str (pa_cons (pe_op op_catS (pv 0) pe_str) (pa_cons pe_str (pa_cons (pe_op op_repS pe_str (pe_op op_addI pe_int (pe_op op_modI (pe_op op_divI (pv 1) pe_int) pe_int))) pa_nil)))))))
      (pss_one (ps_ret (pe_ix ix_list (pv 2) (pe_op op_modI (pv 1) pe_int) (fun _ _ => rfl)))))))
theorem d_l_turned (T : Txt c mg) (G_l_odd : FnIn P w c.K mg base 1 "_law_odd" ["word", "cell"] (sp_l_odd c)) (F : Fun c.K "_law_turned" "_law_turned" s_l_turned f fd) (hm : mg "_law_turned" = some (.ref f)) : FnIn P w c.K mg base 2 "_law_turned" ["lines", "way", "cell", "other"] (sp_l_turned c) :=
  fn_by (tt := t_l_turned c) F hm (F.binds fun _ _ _ _ _ _ us hl => match us, hl with | [_, _, _, _], _ => rfl) sc_l_turned (by
    intro vs H Q E h
    unfold sp_l_turned at h
    repeat (first | (obtain ⟨rfl, h⟩ := h; exact rfl) | obtain ⟨_, h⟩ := h)) (pure_l_turned)
    (fun cdv A outer s H E hr tk po => by exact (pss_cons (ps_set (i := 4) sc_l_turned.nd rfl (by first | exact .inl rfl | exact .inr rfl) (pe_callTy c_list (by rfl) T.b_list (by decide +kernel) (pa_cons (pv 0) pa_nil)))
      (pss_cons (ps_set (i := 5) sc_l_turned.nd rfl (by first | exact .inl rfl | exact .inr rfl) (pe_op op_modI (pv 2) (pe_callB c_lenS (by rfl) T.b_len (by decide +kernel) (pa_cons (pv 4) pa_nil))))
      (pss_cons (ps_set (i := 6) sc_l_turned.nd rfl (by first | exact .inl rfl | exact .inr rfl) (pe_split (pe_ix ix_list (pv 4) (pv 5) (fun _ _ => rfl)) pe_str))
      (pss_cons (ps_if (PW.pt (pw_or (pt_cmpR op_eq (pv 1) pe_int (nomark _)) (pw_or1 (pt_cmpR op_eq (pv 1) pe_int (nomark _))))) (pss_cons (ps_set (i := 7) sc_l_turned.nd rfl (by first | exact .inl rfl | exact .inr rfl) (pe_op op_modI (pe_op op_divI (pv 2) pe_int) (pe_callB c_lenS (by rfl) T.b_len (by decide +kernel) (pa_cons (pv 6) pa_nil))))
      (pss_cons (ps_asg (pe_fn G_l_odd (hr.mono (by decide)) tk rfl (pa_cons (pe_ix ix_list (pv 6) (pv 7) (fun _ _ => rfl)) (pa_cons (pv 3) pa_nil))) (pg_sub (pv 6) (pv 7) set_list))
      (pss_one (ps_asg (pe_join pe_str (pv 6)) (pg_sub (pv 4) (pv 5) set_list))))) pss_nil)
      (pss_cons (ps_if (pt_cmpR op_eq (pv 1) pe_int (nomark _)) (pss_cons (ps_asg (pe_ix ix_list (pv 0) (pe_un un_negI pe_int) (fun _ _ => rfl)) (pg_sub (pv 4) (pv 5) set_list))
      (pss_one (ps_asg (pe_ix ix_list (pv 0) (pv 5) (fun _ _ => rfl)) (pg_sub (pv 4) (pe_un un_negI pe_int) set_list)))) pss_nil)
      (pss_cons (ps_if (pt_cmpR op_eq (pv 1) pe_int (nomark _)) (pss_one (ps_expr (pe_bm PySem.F.plainAttrs_list PySem.F.slot_list_insert PySem.F.type_list_insert m_insert (pv 4) (pa_cons (pv 5) (pa_cons (pe_ix ix_list (pv 4) (pe_un un_negI pe_int) (fun _ _ => rfl)) pa_nil))))) pss_nil)
      (pss_cons (ps_if (pt_cmpR op_eq (pv 1) pe_int (nomark _)) (pss_one (ps_expr (pe_bm PySem.F.plainAttrs_list PySem.F.slot_list_pop PySem.F.type_list_pop mt_popAt (pv 4) (pa_cons pe_int pa_nil)))) pss_nil)
      (pss_cons (ps_set (i := 8) sc_l_turned.nd rfl (by first | exact .inl rfl | exact .inr rfl) (pe_join pe_str (pv 4)))
      (pss_cons (ps_if (PW.pt (pw_or (pt_cmpR op_eq (pv 1) pe_int (nomark _)) (pw_or1 (pt_cmpR op_eq (pv 1) pe_int (nomark _))))) (pss_cons (ps_set (i := 7) sc_l_turned.nd rfl (by first | exact .inl rfl | exact .inr rfl) (pe_op op_modI (pv 3) (pe_op op_addI (pe_callB c_lenT (by rfl) T.b_len (by decide +kernel) (pa_cons (pv 8) pa_nil)) pe_int)))
      (pss_one (ps_set (i := 8) sc_l_turned.nd rfl (by first | exact .inl rfl | exact .inr rfl) (pe_op op_catS (pe_op op_catS (pe_slice sl_str (pv 8) po_none (po_some (pv 7))) (pe_ix ix_list (pe_lst (pa_cons pe_str (pa_cons pe_str pa_nil))) (pe_op op_modI (pv 2) pe_int) (fun _ _ => rfl))) (pe_slice sl_str (pv 8) (po_some (pv 7)) po_none))))) pss_nil)
      (pss_one (ps_ret (pv 8)))))))))))))
theorem d_l_number (T : Txt c mg)  (F : Fun c.K "_law_number" "_law_number" s_l_number f fd) (hm : mg "_law_number" = some (.ref f)) : FnIn P w c.K mg base 1 "_law_number" ["word", "most"] (sp_l_number c) :=
  fn_by (tt := t_l_number c) F hm (F.binds fun _ _ _ _ _ _ us hl => match us, hl with | [_, _], _ => rfl) sc_l_number (by
    intro vs H Q E h
    unfold sp_l_number at h
    repeat (first | (obtain ⟨rfl, h⟩ := h; exact rfl) | obtain ⟨_, h⟩ := h)) (pure_l_number)
    (fun cdv A outer s H E hr tk po => by exact (pss_cons (ps_if (PW.pt (pw_or (pt_cmpR op_eq (pv 0) pe_str (nomark _)) (pw_or (pt_cmpR op_gtI (pe_callB c_lenT (by rfl) T.b_len (by decide +kernel) (pa_cons (pv 0) pa_nil)) pe_int (nomark _)) (pw_or1 (PW.pt (pw_and (pt_cmpR op_gtI (pe_callB c_lenT (by rfl) T.b_len (by decide +kernel) (pa_cons (pv 0) pa_nil)) pe_int (nomark _)) (pw_and1 (pt_cmpR op_eq (pe_ix ix_str (pv 0) pe_int (fun _ _ => rfl)) pe_str (nomark _))))))))) (pss_one (ps_ret (pe_un un_negI pe_int))) pss_nil)
      (pss_cons (ps_for po rfl (pi_str (pv 0)) (pg_name (i := 2) sc_l_number.nd rfl (by first | exact .inl rfl | exact .inr rfl)) (pss_one (ps_if (pt_cmpR op_notInS (pv 2) pe_str (by rfl)) (pss_one (ps_ret (pe_un un_negI pe_int))) pss_nil)))
      (pss_cons (ps_if (pt_cmpR op_gtI (pe_callTy c_intS (by rfl) T.b_int (by decide +kernel) (pa_cons (pv 0) pa_nil)) (pv 1) (nomark _)) (pss_one (ps_ret (pe_un un_negI pe_int))) pss_nil)
      (pss_one (ps_ret (pe_callTy c_intS (by rfl) T.b_int (by decide +kernel) (pa_cons (pv 0) pa_nil))))))))
theorem d_l_right_line (T : Txt c mg) (G_l_number : FnIn P w c.K mg base 1 "_law_number" ["word", "most"] (sp_l_number c)) (F : Fun c.K "_law_right_line" "_law_right_line" s_l_right_line f fd) (hm : mg "_law_right_line" = some (.ref f)) : FnIn P w c.K mg base 2 "_law_right_line" ["line", "points"] (sp_l_right_line c) :=
  fn_by (tt := t_l_right_line c) F hm (F.binds fun _ _ _ _ _ _ us hl => match us, hl with | [_, _], _ => rfl) sc_l_right_line (by
    intro vs H Q E h
    unfold sp_l_right_line at h
    repeat (first | (obtain ⟨rfl, h⟩ := h; exact rfl) | obtain ⟨_, h⟩ := h)) (pure_l_right_line)
    (fun cdv A outer s H E hr tk po => by exact (pss_cons (ps_set (i := 2) sc_l_right_line.nd rfl (by first | exact .inl rfl | exact .inr rfl) (pe_split (pv 0) pe_str))
      (pss_cons (ps_if (PW.pt (pw_or (pt_cmpR op_ne (pe_callB c_lenS (by rfl) T.b_len (by decide +kernel) (pa_cons (pv 2) pa_nil)) pe_int (nomark _)) (pw_or1 (pt_cmpR (op_neD hr.units) (pe_lst (pa_cons (pe_ix ix_list (pv 2) pe_int (fun _ _ => rfl)) (pa_cons (pe_ix ix_list (pv 2) pe_int (fun _ _ => rfl)) (pa_cons (pe_ix ix_list (pv 2) pe_int (fun _ _ => rfl)) pa_nil)))) (pe_lst (pa_cons pe_str (pa_cons pe_str (pa_cons pe_str pa_nil)))) (nomark _))))) (pss_one (ps_ret pe_non)) pss_nil)
      (pss_cons (ps_set (i := 3) sc_l_right_line.nd rfl (by first | exact .inl rfl | exact .inr rfl) (pe_ix ix_list (pv 2) pe_int (fun _ _ => rfl)))
      (pss_cons (ps_if (PW.pt (pw_or (pt_not (pt_chain op_leI op_leI pe_int (pe_callB c_lenT (by rfl) T.b_len (by decide +kernel) (pa_cons (pv 3) pa_nil)) pe_int)) (pw_or1 (pt_cmpR op_gtI (pe_callB c_lenS (by rfl) T.b_len (by decide +kernel) (pa_cons (pe_lc (own := [("sign", 4)]) (g := (gName 4)) (by rfl) sc_l_right_line.nd (pi_str (pv 3)) (blkOk_by (own := [("sign", 4)]) (N := N_l_right_line) (sc := defScope s_l_right_line) (by decide +kernel)) (fun _ _ _ _ _ => (pg_name (i := 4) sc_l_right_line.nd rfl (Or.inl rfl))) (fun _ _ _ _ _ => (pts_one (pt_cmpR op_notInS (pv 4) pe_str (by rfl)))) (fun _ _ _ _ _ => (pv 4))) pa_nil)) pe_int (nomark _))))) (pss_one (ps_ret pe_non)) pss_nil)
      (pss_cons (ps_set (i := 5) sc_l_right_line.nd rfl (by first | exact .inl rfl | exact .inr rfl) (pe_tup (pa_cons (pv 3) (pa_cons (pe_fn G_l_number (hr.mono (by decide)) tk rfl (pa_cons (pe_ix ix_list (pv 2) pe_int (fun _ _ => rfl)) (pa_cons (pe_op op_subI (pv 1) pe_int) pa_nil))) (pa_cons (pe_fn G_l_number (hr.mono (by decide)) tk rfl (pa_cons (pe_ix ix_list (pv 2) pe_int (fun _ _ => rfl)) (pa_cons pe_int pa_nil))) (pa_cons (pe_fn G_l_number (hr.mono (by decide)) tk rfl (pa_cons (pe_ix ix_list (pv 2) pe_int (fun _ _ => rfl)) (pa_cons pe_int pa_nil))) pa_nil))))))
      (pss_cons (ps_if (pt_cmpR op_in_seq (pe_un un_negI pe_int) (pv 5) (by rfl)) (pss_one (ps_ret pe_non)) pss_nil)
      (pss_one (ps_ret (pv 5))))))))))
theorem d_l_good (T : Txt c mg) (G_l_number : FnIn P w c.K mg base 1 "_law_number" ["word", "most"] (sp_l_number c)) (G_l_right_line : FnIn P w c.K mg base 2 "_law_right_line" ["line", "points"] (sp_l_right_line c)) (G_l_aged : FnIn P w c.K mg base 1 "_law_aged" ["rights"] (sp_l_aged c)) (F : Fun c.K "_law_good" "_law_good" s_l_good f fd) (hm : mg "_law_good" = some (.ref f)) : FnIn P w c.K mg base 3 "_law_good" ["text"] (sp_l_good c) :=
  fn_by (tt := t_l_good c) F hm (F.binds fun _ _ _ _ _ _ us hl => match us, hl with | [_], _ => rfl) sc_l_good (by
    intro vs H Q E h
    unfold sp_l_good at h
    repeat (first | (obtain ⟨rfl, h⟩ := h; exact rfl) | obtain ⟨_, h⟩ := h)) (pure_l_good)
    (fun cdv A outer s H E hr tk po => by exact (pss_cons (ps_set (i := 1) sc_l_good.nd rfl (by first | exact .inl rfl | exact .inr rfl) (pe_split (pv 0) pe_str))
      (pss_cons (ps_set (i := 2) sc_l_good.nd rfl (by first | exact .inl rfl | exact .inr rfl) (pe_split (pe_ix ix_list (pv 1) pe_int (fun _ _ => rfl)) pe_str))
      (pss_cons (ps_if (PW.pt (pw_or (pt_cmpR (op_neD hr.units) (pe_slice sl_list (pv 2) po_none (po_some pe_int)) (pe_lst (pa_cons pe_str (pa_cons pe_str pa_nil))) (nomark _)) (pw_or1 (pt_cmpR op_gtI (pe_callB c_lenS (by rfl) T.b_len (by decide +kernel) (pa_cons (pv 2) pa_nil)) pe_int (nomark _))))) (pss_one (ps_ret pe_bl)) pss_nil)
      (pss_cons (ps_for po rfl (pi_range2 rfl T.b_range (pa_cons pe_int (pa_cons (pe_callB c_lenS (by rfl) T.b_len (by decide +kernel) (pa_cons (pv 2) pa_nil)) pa_nil))) (pg_name (i := 3) sc_l_good.nd rfl (by first | exact .inl rfl | exact .inr rfl)) (pss_one (ps_if (pt_cmpR op_ltI (pe_fn G_l_number (hr.mono (by decide)) tk rfl (pa_cons (pe_ix ix_list (pv 2) (pv 3) (fun _ _ => rfl)) (pa_cons (pe_op op_subI (pv 3) pe_int) pa_nil))) pe_int (nomark _)) (pss_one (ps_ret pe_bl)) pss_nil)))
      (pss_cons (ps_setLc (i := 4) (own := [("line", 5)]) (g := (gName 5)) (by rfl) sc_l_good.nd rfl rfl (sw_true rfl rfl rfl (by decide +kernel)) (pi_list (pe_slice sl_list (pv 1) (po_some pe_int) po_none)) (blkOk_by (own := [("line", 5)]) (N := N_l_good) (sc := defScope s_l_good) (by decide +kernel)) (fun _ _ _ _ _ => (pg_name (i := 5) sc_l_good.nd rfl (Or.inl rfl))) (fun _ _ _ _ _ => pts_nil) (fun _ _ _ _ _ => (pe_fn G_l_right_line (hr.mono (by decide)) takes0 rfl (pa_cons (pv 5) (pa_cons (pe_op op_subI (pe_callB c_lenS (by rfl) T.b_len (by decide +kernel) (pa_cons (pv 2) pa_nil)) pe_int) pa_nil)))))
      (pss_cons (ps_if (PW.pt (pw_or (pt_cmpR (op_inD (hu65 hr)) pe_non (pv 4) (by rfl)) (pw_or1 (pt_cmpR op_gtI (pe_callB c_lenS (by rfl) T.b_len (by decide +kernel) (pa_cons (pv 4) pa_nil)) pe_int (nomark _))))) (pss_one (ps_ret pe_bl)) pss_nil)
      (pss_cons (ps_setLc (i := 6) (own := [("right", 7)]) (g := (gName 7)) (by rfl) sc_l_good.nd rfl rfl (sw_true rfl rfl rfl (by decide +kernel)) (pi_list (pv 4)) (blkOk_by (own := [("right", 7)]) (N := N_l_good) (sc := defScope s_l_good) (by decide +kernel)) (fun _ _ _ _ _ => (pg_name (i := 7) sc_l_good.nd rfl (Or.inl rfl))) (fun _ _ _ _ _ => pts_nil) (fun _ _ _ _ _ => (pe_ix ix_tup (pv 7) pe_int (fun _ _ => rfl))))
      (pss_one (ps_ret (pe_and (pe_cmpR op_eq (pe_lenSetT rfl rfl T.b_len rfl T.b_set (pv 6)) (pe_callB c_lenS (by rfl) T.b_len (by decide +kernel) (pa_cons (pv 6) pa_nil)) (nomark _)) (pe_one (pe_cmpR (op_eqD hr.units) (pv 4) (pe_fn G_l_aged (hr.mono (by decide)) tk rfl (pa_cons (pv 4) pa_nil)) (nomark _))))))))))))))
theorem d_number (T : Txt c mg)  (F : Fun c.K "number" "number" s_number f fd) (hm : mg "number" = some (.ref f)) : FnIn P w c.K mg base 1 "number" ["word", "most"] (sp_number c) :=
  fn_by (tt := t_number c) F hm (F.binds fun _ _ _ _ _ _ us hl => match us, hl with | [_, _], _ => rfl) sc_number (by
    intro vs H Q E h
    unfold sp_number at h
    repeat (first | (obtain ⟨rfl, h⟩ := h; exact rfl) | obtain ⟨_, h⟩ := h)) (pure_number)
    (fun cdv A outer s H E hr tk po => by exact (pss_cons (ps_if (pt_not (pt_chain op_leI op_leI pe_int (pe_callB c_lenT (by rfl) T.b_len (by decide +kernel) (pa_cons (pv 0) pa_nil)) pe_int)) (pss_one (ps_rz rfl T.e_BadText tk rfl)) pss_nil)
      (pss_cons (ps_for po rfl (pi_str (pv 0)) (pg_name (i := 2) sc_number.nd rfl (by first | exact .inl rfl | exact .inr rfl)) (pss_one (ps_if (pt_cmpR op_notInS (pv 2) (pe_gS rfl T.g_FIGURES) (by rfl)) (pss_one (ps_rz rfl T.e_BadText tk rfl)) pss_nil)))
      (pss_cons (ps_if (pt_cmpR op_gtI (pe_callTy c_intS (by rfl) T.b_int (by decide +kernel) (pa_cons (pv 0) pa_nil)) (pv 1) (nomark _)) (pss_one (ps_rz rfl T.e_BadText tk rfl)) pss_nil)
      (pss_one (ps_ret (pe_callTy c_intS (by rfl) T.b_int (by decide +kernel) (pa_cons (pv 0) pa_nil))))))))
theorem d_River_initN (T : Txt c mg)  (F : Fun c.K "__init__" "River.__init__" s_River_initN f fd) (hM : Mk c.K c.river f) (hm : mg "River" = some (.ref c.river)) : MkInN P w c.K mg base 1 "River" c.river ["self", "below"] (sp_River_initN c) :=
  mkN_by (tt := t_River_init c) F hM hm (F.binds fun _ _ _ _ _ _ us hl => match us, hl with | [_, _], _ => rfl) sc_River_initN (by
    intro vs H Q E h
    unfold sp_River_initN at h
    repeat (first | (obtain ⟨rfl, h⟩ := h; exact rfl) | obtain ⟨_, h⟩ := h)) (pure_River_initN T.riv)
    (fun cdv A outer s H E hr tk po => by exact (pss_cons (ps_if (PW.pt (pw_or (pt_not (pt_chain op_leI op_leI pe_int (pe_callB c_lenS (by rfl) T.b_len (by decide +kernel) (pa_cons (pv 1) pa_nil)) (pe_gI rfl T.g_MOST_POINTS))) (pw_or1 (pt_cmpR op_notNon (pe_ix ix_list (pv 1) pe_int (fun _ _ => rfl)) pe_non (nomark _))))) (pss_one (ps_rzN rfl T.e_BadRiver tk rfl)) pss_nil)
      (pss_cons (ps_for po rfl (pi_range2 rfl T.b_range (pa_cons pe_int (pa_cons (pe_callB c_lenS (by rfl) T.b_len (by decide +kernel) (pa_cons (pv 1) pa_nil)) pa_nil))) (pg_name (i := 2) sc_River_initN.nd rfl (by first | exact .inl rfl | exact .inr rfl)) (pss_one (ps_if (PW.pt (pw_or (pt_cmpR op_isNon (pe_ix ix_list (pv 1) (pv 2) (fun _ _ => rfl)) pe_non (nomark _)) (pw_or1 (pt_not (pt_chain op_leI op_ltI pe_int (pe_ix ix_list (pv 1) (pv 2) (fun _ _ => rfl)) (pv 2)))))) (pss_one (ps_rzN rfl T.e_BadRiver tk rfl)) pss_nil)))
      (pss_one (ps_fld (pv 0) (pe_callTy c_list (by rfl) T.b_list (by decide +kernel) (pa_cons (pv 1) pa_nil)) rfl)))))
theorem d_river_ofX (T : Txt c mg) (G_number : FnIn P w c.K mg base 1 "number" ["word", "most"] (sp_number c)) (G_River_initN : MkInN P w c.K mg base 1 "River" c.river ["self", "below"] (sp_River_initN c)) (F : Fun c.K "river_of" "river_of" s_river_ofX f fd) (hm : mg "river_of" = some (.ref f)) : FnIn P w c.K mg base 3 "river_of" ["line"] (sp_river_ofX c) :=
  fn_by (tt := t_river_ofX c) F hm (F.binds fun _ _ _ _ _ _ us hl => match us, hl with | [_], _ => rfl) sc_river_ofX (by
    intro vs H Q E h
    unfold sp_river_ofX at h
    repeat (first | (obtain ⟨rfl, h⟩ := h; exact rfl) | obtain ⟨_, h⟩ := h)) (pure_river_ofX T.m_BadRiver_BadRiver_t)
    (fun cdv A outer s H E hr tk po => by exact (pss_cons (ps_set (i := 1) sc_river_ofX.nd rfl (by first | exact .inl rfl | exact .inr rfl) (pe_split (pv 0) pe_str))
      (pss_cons (ps_if (PW.pt (pw_or (pt_cmpR op_ltI (pe_callB c_lenS (by rfl) T.b_len (by decide +kernel) (pa_cons (pv 1) pa_nil)) pe_int (nomark _)) (pw_or (pt_cmpR op_ne (pe_ix ix_list (pv 1) pe_int (fun _ _ => rfl)) pe_str (nomark _)) (pw_or1 (pt_cmpR op_ne (pe_ix ix_list (pv 1) pe_int (fun _ _ => rfl)) pe_str (nomark _)))))) (pss_one (ps_rz rfl T.e_BadText tk rfl)) pss_nil)
      (pss_cons (ps_set (i := 2) sc_river_ofX.nd rfl (by first | exact .inl rfl | exact .inr rfl) (pe_lst (pa_cons pe_non pa_nil)))
      (pss_cons (ps_for po rfl (pi_list (pe_slice sl_list (pv 1) (po_some pe_int) po_none)) (pg_name (i := 3) sc_river_ofX.nd rfl (by first | exact .inl rfl | exact .inr rfl)) (pss_one (ps_expr (pe_bm PySem.F.plainAttrs_list PySem.F.slot_list_append PySem.F.type_list_append mt_append (pv 2) (pa_cons (pe_fn G_number (hr.mono (by decide)) tk rfl (pa_cons (pv 3) (pa_cons (pe_gI rfl T.g_MOST_AMOUNT) pa_nil))) pa_nil)))))
      (pss_cons (ps_set (i := 4) sc_river_ofX.nd rfl (by first | exact .inl rfl | exact .inr rfl) pe_non)
      (pss_cons (L2H.ps_try_onlyX (tb := fun W1 => (tAsg (tMakeS c.river (sp_River_init c) W1 (tCons (tVar 2) tNil)) (gName 4))) (ts := fun a cls d => (tRaise (wF E) c.badText)) (Wout := (wF E)) rfl rfl ⟨rfl, by decide, .inl T.e_BadRiver.g⟩ (fun hd => L2H.passesAt_of rfl hd) tk
      (fun W1 pn1 xe1 tk1 tp1 po1 => (pss_one (ps_set (i := 4) sc_river_ofX.nd rfl (by first | exact .inl rfl | exact .inr rfl) (pe_mkN G_River_initN (hr.mono (by decide)) tk1 rfl (pa_cons (pv 2) pa_nil)))))
      (fun a oe cls d pn hz hf tkS hot => (pss_one (ps_rzH hot T.e_BadText tkS rfl))))
      (pss_one (ps_ret (pv 4))))))))))
theorem d_Book_init (T : Txt c mg)  (F : Fun c.K "__init__" "Book.__init__" s_Book_init f fd) (hM : Mk c.K c.book f) (hm : mg "Book" = some (.ref c.book)) : MkIn P w c.K mg base 1 "Book" c.book ["self", "river"] (sp_Book_init c) :=
  mk_by (tt := t_Book_init c) F hM hm (F.binds fun _ _ _ _ _ _ us hl => match us, hl with | [_, _], _ => rfl) sc_Book_init (by
    intro vs H Q E h
    unfold sp_Book_init at h
    repeat (first | (obtain ⟨rfl, h⟩ := h; exact rfl) | obtain ⟨_, h⟩ := h)) (pure_Book_init T.bok)
    (fun cdv A outer s H E hr tk po => by exact (pss_cons (ps_fld (pv 0) (pv 1) rfl)
      (pss_one (ps_fld (pv 0) pe_dnewK rfl))))
theorem d_is_name (T : Txt c mg)  (F : Fun c.K "is_name" "is_name" s_is_name f fd) (hm : mg "is_name" = some (.ref f)) : FnIn P w c.K mg base 1 "is_name" ["word"] (sp_is_name c) :=
  fn_by (tt := t_is_name c) F hm (F.binds fun _ _ _ _ _ _ us hl => match us, hl with | [_], _ => rfl) sc_is_name (by
    intro vs H Q E h
    unfold sp_is_name at h
    repeat (first | (obtain ⟨rfl, h⟩ := h; exact rfl) | obtain ⟨_, h⟩ := h)) (pure_is_name)
    (fun cdv A outer s H E hr tk po => by exact (pss_cons (ps_if (pt_not (pt_chain op_leI op_leI pe_int (pe_callB c_lenT (by rfl) T.b_len (by decide +kernel) (pa_cons (pv 0) pa_nil)) pe_int)) (pss_one (ps_ret pe_bl)) pss_nil)
      (pss_cons (ps_for po rfl (pi_str (pv 0)) (pg_name (i := 1) sc_is_name.nd rfl (by first | exact .inl rfl | exact .inr rfl)) (pss_one (ps_if (pt_cmpR op_notInS (pv 1) (pe_gS rfl T.g_LETTERS) (by rfl)) (pss_one (ps_ret pe_bl)) pss_nil)))
      (pss_one (ps_ret pe_bl)))))
theorem d_Book_names (T : Txt c mg)  (F : Fun c.K "names" "Book.names" s_Book_names f fd) (hM : Meth c.K c.book "names" f) : MeIn P w c.K mg base 1 c.book "names" ["self"] (sp_Book_names c) :=
  me_by (tt := t_Book_names c) F hM T.bok.cl (F.binds fun _ _ _ _ _ _ us hl => match us, hl with | [_], _ => rfl) sc_Book_names (by
    intro vs H Q E h
    unfold sp_Book_names at h
    repeat (first | (obtain ⟨rfl, h⟩ := h; exact rfl) | obtain ⟨_, h⟩ := h)) (pure_Book_names T.bok)
    (fun cdv A outer s H E hr tk po => by exact (pss_cons (ps_set (i := 1) sc_Book_names.nd rfl (by first | exact .inl rfl | exact .inr rfl) (pe_callB (c_sortedD (hu65 hr)) (by rfl) T.b_sorted (by decide +kernel) (pa_cons (pe_lock (pe_lc (own := [("name", 2)]) (g := (gName 2)) (by rfl) sc_Book_names.nd (pi_keys (pe_fld (pv 0) rfl)) (blkOk_by (own := [("name", 2)]) (N := N_Book_names) (sc := defScope s_Book_names) (by decide +kernel)) (fun _ _ _ _ _ => (pg_name (i := 2) sc_Book_names.nd rfl (Or.inl rfl))) (fun _ _ _ _ _ => pts_nil) (fun _ _ _ _ _ => (pe_tup (pa_cons (pe_ix ix_tup (pe_dget (hu_of hr) (pe_fld (pv 0) rfl) (pv 2) (fun _ _ => rfl)) pe_int (fun _ _ => rfl)) (pa_cons (pv 2) pa_nil)))))) pa_nil)))
      (pss_one (ps_ret (pe_lc (own := [("pair", 3)]) (g := (gName 3)) (by rfl) sc_Book_names.nd (pi_list (pv 1)) (blkOk_by (own := [("pair", 3)]) (N := N_Book_names) (sc := defScope s_Book_names) (by decide +kernel)) (fun _ _ _ _ _ => (pg_name (i := 3) sc_Book_names.nd rfl (Or.inl rfl))) (fun _ _ _ _ _ => pts_nil) (fun _ _ _ _ _ => (pe_ix ix_tup (pv 3) pe_int (fun _ _ => rfl))))))))
theorem d_Book_river (T : Txt c mg)  (F : Fun c.K "river" "Book.river" s_Book_river f fd) (hM : Meth c.K c.book "river" f) : MeIn P w c.K mg base 1 c.book "river" ["self"] (sp_Book_river c) :=
  me_by (tt := t_Book_river c) F hM T.bok.cl (F.binds fun _ _ _ _ _ _ us hl => match us, hl with | [_], _ => rfl) sc_Book_river (by
    intro vs H Q E h
    unfold sp_Book_river at h
    repeat (first | (obtain ⟨rfl, h⟩ := h; exact rfl) | obtain ⟨_, h⟩ := h)) (pure_Book_river T.bok)
    (fun cdv A outer s H E hr tk po => by exact (pss_one (ps_ret (pe_fld (pv 0) rfl))))
theorem d_River_points (T : Txt c mg)  (F : Fun c.K "points" "River.points" s_River_points f fd) (hM : Meth c.K c.river "points" f) : MeIn P w c.K mg base 1 c.river "points" ["self"] (sp_River_points c) :=
  me_by (tt := t_River_points c) F hM T.riv.cl (F.binds fun _ _ _ _ _ _ us hl => match us, hl with | [_], _ => rfl) sc_River_points (by
    intro vs H Q E h
    unfold sp_River_points at h
    repeat (first | (obtain ⟨rfl, h⟩ := h; exact rfl) | obtain ⟨_, h⟩ := h)) (pure_River_points T.riv)
    (fun cdv A outer s H E hr tk po => by exact (pss_one (ps_ret (pe_callB c_lenS (by rfl) T.b_len (by decide +kernel) (pa_cons (pe_fld (pv 0) rfl) pa_nil)))))
theorem d_Book_free (T : Txt c mg)  (F : Fun c.K "free" "Book.free" s_Book_free f fd) (hM : Meth c.K c.book "free" f) : MeIn P w c.K mg base 1 c.book "free" ["self", "name"] (sp_Book_free c) :=
  me_by (tt := t_Book_free c) F hM T.bok.cl (F.binds fun _ _ _ _ _ _ us hl => match us, hl with | [_, _], _ => rfl) sc_Book_free (by
    intro vs H Q E h
    unfold sp_Book_free at h
    repeat (first | (obtain ⟨rfl, h⟩ := h; exact rfl) | obtain ⟨_, h⟩ := h)) (pure_Book_free T.bok)
    (fun cdv A outer s H E hr tk po => by exact (pss_one (ps_if (pt_cmp (pc_din (hu_of hr) (pv 1) (pe_fld (pv 0) rfl))) (pss_one (ps_rz rfl T.e_Taken tk rfl)) pss_nil)))
theorem d_River_below (T : Txt c mg)  (F : Fun c.K "below" "River.below" s_River_below f fd) (hM : Meth c.K c.river "below" f) : MeIn P w c.K mg base 1 c.river "below" ["self", "point"] (sp_River_below c) :=
  me_by (tt := t_River_below c) F hM T.riv.cl (F.binds fun _ _ _ _ _ _ us hl => match us, hl with | [_, _], _ => rfl) sc_River_below (by
    intro vs H Q E h
    unfold sp_River_below at h
    repeat (first | (obtain ⟨rfl, h⟩ := h; exact rfl) | obtain ⟨_, h⟩ := h)) (pure_River_below T.riv)
    (fun cdv A outer s H E hr tk po => by exact (pss_cons (ps_if (pt_not (pt_chain op_leI op_ltI pe_int (pv 1) (pe_callB c_lenS (by rfl) T.b_len (by decide +kernel) (pa_cons (pe_fld (pv 0) rfl) pa_nil)))) (pss_one (ps_rz rfl T.e_NoPoint tk rfl)) pss_nil)
      (pss_one (ps_ret (pe_ix ix_list (pe_fld (pv 0) rfl) (pv 1) (fun _ _ => rfl))))))
theorem d_Book_grant (T : Txt c mg) (G_Book_free : MeIn P w c.K mg base 1 c.book "free" ["self", "name"] (sp_Book_free c)) (G_River_below : MeIn P w c.K mg base 1 c.river "below" ["self", "point"] (sp_River_below c)) (F : Fun c.K "grant" "Book.grant" s_Book_grant f fd) (hM : Meth c.K c.book "grant" f) : MeIn P w c.K mg base 2 c.book "grant" ["self", "name", "point", "amount", "date"] (sp_Book_grant c) :=
  me_by (tt := t_Book_grant c) F hM T.bok.cl (F.binds fun _ _ _ _ _ _ us hl => match us, hl with | [_, _, _, _, _], _ => rfl) sc_Book_grant (by
    intro vs H Q E h
    unfold sp_Book_grant at h
    repeat (first | (obtain ⟨rfl, h⟩ := h; exact rfl) | obtain ⟨_, h⟩ := h)) (pure_Book_grant T.bok)
    (fun cdv A outer s H E hr tk po => by exact (pss_cons (ps_expr (pe_me G_Book_free (hr.mono (by decide)) tk (pv 0) (pa_cons (pv 1) pa_nil)))
      (pss_cons (ps_expr (pe_me G_River_below (hr.mono (by decide)) tk (pe_fld (pv 0) rfl) (pa_cons (pv 2) pa_nil)))
      (pss_cons (ps_dput (hu_of hr) (pe_fld (pv 0) rfl) (pv 1) (pe_tup (pa_cons (pv 2) (pa_cons (pv 3) (pa_cons (pv 4) pa_nil)))) rfl)
      (pss_one (ps_ret (pe_callB c_lenD (by rfl) T.b_len (by decide +kernel) (pa_cons (pe_fld (pv 0) rfl) pa_nil))))))))
theorem d_grantedX (T : Txt c mg) (G_is_name : FnIn P w c.K mg base 1 "is_name" ["word"] (sp_is_name c)) (G_Book_names : MeIn P w c.K mg base 1 c.book "names" ["self"] (sp_Book_names c)) (G_Book_river : MeIn P w c.K mg base 1 c.book "river" ["self"] (sp_Book_river c)) (G_River_points : MeIn P w c.K mg base 1 c.river "points" ["self"] (sp_River_points c)) (G_number : FnIn P w c.K mg base 1 "number" ["word", "most"] (sp_number c)) (G_Book_grant : MeIn P w c.K mg base 2 c.book "grant" ["self", "name", "point", "amount", "date"] (sp_Book_grant c)) (F : Fun c.K "granted" "granted" s_grantedX f fd) (hm : mg "granted" = some (.ref f)) : FnIn P w c.K mg base 3 "granted" ["book", "line"] (sp_grantedX c) :=
  fn_by (tt := t_grantedX c) F hm (F.binds fun _ _ _ _ _ _ us hl => match us, hl with | [_, _], _ => rfl) sc_grantedX (by
    intro vs H Q E h
    unfold sp_grantedX at h
    repeat (first | (obtain ⟨rfl, h⟩ := h; exact rfl) | obtain ⟨_, h⟩ := h)) (pure_grantedX)
    (fun cdv A outer s H E hr tk po => by exact (pss_cons (ps_set (i := 2) sc_grantedX.nd rfl (by first | exact .inl rfl | exact .inr rfl) (pe_split (pv 1) pe_str))
      (pss_cons (ps_if (PW.pt (pw_or (pt_cmpR op_ne (pe_callB c_lenS (by rfl) T.b_len (by decide +kernel) (pa_cons (pv 2) pa_nil)) pe_int (nomark _)) (pw_or (pt_cmpR op_ne (pe_ix ix_list (pv 2) pe_int (fun _ _ => rfl)) pe_str (nomark _)) (pw_or (pt_cmpR op_ne (pe_ix ix_list (pv 2) pe_int (fun _ _ => rfl)) pe_str (nomark _)) (pw_or1 (pt_cmpR op_ne (pe_ix ix_list (pv 2) pe_int (fun _ _ => rfl)) pe_str (nomark _))))))) (pss_one (ps_rz rfl T.e_BadText tk rfl)) pss_nil)
      (pss_cons (ps_if (PW.pt (pw_or (pt_not (pt_val (pe_fn G_is_name (hr.mono (by decide)) tk rfl (pa_cons (pe_ix ix_list (pv 2) pe_int (fun _ _ => rfl)) pa_nil)))) (pw_or1 (pt_cmpR op_in_seq (pe_ix ix_list (pv 2) pe_int (fun _ _ => rfl)) (pe_me0 G_Book_names (hr.mono (by decide)) tk (pv 0)) (by rfl))))) (pss_one (ps_rz rfl T.e_BadText tk rfl)) pss_nil)
      (pss_cons (ps_set (i := 3) sc_grantedX.nd rfl (by first | exact .inl rfl | exact .inr rfl) (pe_fn G_number (hr.mono (by decide)) tk rfl (pa_cons (pe_ix ix_list (pv 2) pe_int (fun _ _ => rfl)) (pa_cons (pe_op op_subI (pe_me0 G_River_points (hr.mono (by decide)) tk (pe_me0 G_Book_river (hr.mono (by decide)) tk (pv 0))) pe_int) pa_nil))))
      (pss_one (ps_expr (pe_me G_Book_grant (hr.mono (by decide)) tk (pv 0) (pa_cons (pe_ix ix_list (pv 2) pe_int (fun _ _ => rfl)) (pa_cons (pv 3) (pa_cons (pe_fn G_number (hr.mono (by decide)) tk rfl (pa_cons (pe_ix ix_list (pv 2) pe_int (fun _ _ => rfl)) (pa_cons (pe_gI rfl T.g_MOST_AMOUNT) pa_nil))) (pa_cons (pe_fn G_number (hr.mono (by decide)) tk rfl (pa_cons (pe_ix ix_list (pv 2) pe_int (fun _ _ => rfl)) (pa_cons (pe_gI rfl T.g_LAST_DATE) pa_nil))) pa_nil))))))))))))
theorem d_Book_right (T : Txt c mg)  (F : Fun c.K "right" "Book.right" s_Book_right f fd) (hM : Meth c.K c.book "right" f) : MeIn P w c.K mg base 1 c.book "right" ["self", "name"] (sp_Book_right c) :=
  me_by (tt := t_Book_right c) F hM T.bok.cl (F.binds fun _ _ _ _ _ _ us hl => match us, hl with | [_, _], _ => rfl) sc_Book_right (by
    intro vs H Q E h
    unfold sp_Book_right at h
    repeat (first | (obtain ⟨rfl, h⟩ := h; exact rfl) | obtain ⟨_, h⟩ := h)) (pure_Book_right T.bok)
    (fun cdv A outer s H E hr tk po => by exact (pss_cons (ps_if (pt_cmp (pc_dnotin (hu_of hr) (pv 1) (pe_fld (pv 0) rfl))) (pss_one (ps_rz rfl T.e_NoRight tk rfl)) pss_nil)
      (pss_one (ps_ret (pe_dget (hu_of hr) (pe_fld (pv 0) rfl) (pv 1) (fun _ _ => rfl))))))
theorem d_shown (T : Txt c mg) (G_Book_river : MeIn P w c.K mg base 1 c.book "river" ["self"] (sp_Book_river c)) (G_River_points : MeIn P w c.K mg base 1 c.river "points" ["self"] (sp_River_points c)) (G_River_below : MeIn P w c.K mg base 1 c.river "below" ["self", "point"] (sp_River_below c)) (G_Book_names : MeIn P w c.K mg base 1 c.book "names" ["self"] (sp_Book_names c)) (G_Book_right : MeIn P w c.K mg base 1 c.book "right" ["self", "name"] (sp_Book_right c)) (F : Fun c.K "shown" "shown" s_shown f fd) (hm : mg "shown" = some (.ref f)) : FnIn P w c.K mg base 2 "shown" ["book"] (sp_shown c) :=
  fn_by (tt := t_shown c) F hm (F.binds fun _ _ _ _ _ _ us hl => match us, hl with | [_], _ => rfl) sc_shown (by
    intro vs H Q E h
    unfold sp_shown at h
    repeat (first | (obtain ⟨rfl, h⟩ := h; exact rfl) | obtain ⟨_, h⟩ := h)) (pure_shown)
    (fun cdv A outer s H E hr tk po => by exact (pss_cons (ps_set (i := 1) sc_shown.nd rfl (by first | exact .inl rfl | exact .inr rfl) (pe_me0 G_Book_river (hr.mono (by decide)) tk (pv 0)))
      (pss_cons (ps_set (i := 2) sc_shown.nd rfl (by first | exact .inl rfl | exact .inr rfl) (pe_op op_cat (pe_lst (pa_cons pe_str pa_nil)) (pe_lc (own := [("point", 3)]) (g := (gName 3)) (by rfl) sc_shown.nd (pi_range2 rfl T.b_range (pa_cons pe_int (pa_cons (pe_me0 G_River_points (hr.mono (by decide)) tk (pv 1)) pa_nil))) (blkOk_by (own := [("point", 3)]) (N := N_shown) (sc := defScope s_shown) (by decide +kernel)) (fun _ _ _ _ _ => (pg_name (i := 3) sc_shown.nd rfl (Or.inl rfl))) (fun _ _ _ _ _ => pts_nil) (fun _ _ _ _ _ => (pe_callTy c_strI (by rfl) T.b_str (by decide +kernel) (pa_cons (pe_me G_River_below (hr.mono (by decide)) takes0 (pv 1) (pa_cons (pv 3) pa_nil)) pa_nil))))))
      (pss_cons (ps_set (i := 4) sc_shown.nd rfl (by first | exact .inl rfl | exact .inr rfl) (pe_lst (pa_cons (pe_join pe_str (pe_op op_cat (pe_lst (pa_cons pe_str pa_nil)) (pv 2))) pa_nil)))
      (pss_cons (ps_for po rfl (pi_list (pe_me0 G_Book_names (hr.mono (by decide)) tk (pv 0))) (pg_name (i := 5) sc_shown.nd rfl (by first | exact .inl rfl | exact .inr rfl)) (pss_cons (ps_set (i := 6) sc_shown.nd rfl (by first | exact .inl rfl | exact .inr rfl) (pe_me G_Book_right (hr.mono (by decide)) tk (pv 0) (pa_cons (pv 5) pa_nil)))
      (pss_cons (ps_set (i := 7) sc_shown.nd rfl (by first | exact .inl rfl | exact .inr rfl) (pe_lst (pa_cons (pv 5) (pa_cons pe_str (pa_cons (pe_callTy c_strI (by rfl) T.b_str (by decide +kernel) (pa_cons (pe_ix ix_tup (pv 6) pe_int (fun _ _ => rfl)) pa_nil)) (pa_cons pe_str (pa_cons (pe_callTy c_strI (by rfl) T.b_str (by decide +kernel) (pa_cons (pe_ix ix_tup (pv 6) pe_int (fun _ _ => rfl)) pa_nil)) (pa_cons pe_str (pa_cons (pe_callTy c_strI (by rfl) T.b_str (by decide +kernel) (pa_cons (pe_ix ix_tup (pv 6) pe_int (fun _ _ => rfl)) pa_nil)) pa_nil)))))))))
      (pss_one (ps_expr (pe_bm PySem.F.plainAttrs_list PySem.F.slot_list_append PySem.F.type_list_append mt_append (pv 4) (pa_cons (pe_join pe_str (pv 7)) pa_nil)))))))
      (pss_one (ps_ret (pe_join pe_str (pv 4)))))))))
theorem d_readX (T : Txt c mg) (G_river_ofX : FnIn P w c.K mg base 3 "river_of" ["line"] (sp_river_ofX c)) (G_Book_init : MkIn P w c.K mg base 1 "Book" c.book ["self", "river"] (sp_Book_init c)) (G_grantedX : FnIn P w c.K mg base 3 "granted" ["book", "line"] (sp_grantedX c)) (G_shown : FnIn P w c.K mg base 2 "shown" ["book"] (sp_shown c)) (F : Fun c.K "read" "read" s_readX f fd) (hm : mg "read" = some (.ref f)) : FnIn P w c.K mg base 4 "read" ["text"] (sp_readX c) :=
  fn_by (tt := t_readX c) F hm (F.binds fun _ _ _ _ _ _ us hl => match us, hl with | [_], _ => rfl) sc_readX (by
    intro vs H Q E h
    unfold sp_readX at h
    repeat (first | (obtain ⟨rfl, h⟩ := h; exact rfl) | obtain ⟨_, h⟩ := h)) (pure_readX)
    (fun cdv A outer s H E hr tk po => by exact (pss_cons (ps_set (i := 1) sc_readX.nd rfl (by first | exact .inl rfl | exact .inr rfl) (pe_split (pv 0) pe_str))
      (pss_cons (ps_if (pt_cmpR op_gtI (pe_callB c_lenS (by rfl) T.b_len (by decide +kernel) (pa_cons (pv 1) pa_nil)) (pe_op op_addI (pe_gI rfl T.g_MOST_RIGHTS) pe_int) (nomark _)) (pss_one (ps_rz rfl T.e_BadText tk rfl)) pss_nil)
      (pss_cons (ps_set (i := 2) sc_readX.nd rfl (by first | exact .inl rfl | exact .inr rfl) (pe_mk G_Book_init (hr.mono (by decide)) tk rfl (pa_cons (pe_fn G_river_ofX (hr.mono (by decide)) tk rfl (pa_cons (pe_ix ix_list (pv 1) pe_int (fun _ _ => rfl)) pa_nil)) pa_nil)))
      (pss_cons (ps_for po rfl (pi_list (pe_slice sl_list (pv 1) (po_some pe_int) po_none)) (pg_name (i := 3) sc_readX.nd rfl (by first | exact .inl rfl | exact .inr rfl)) (pss_one (ps_expr (pe_fn G_grantedX (hr.mono (by decide)) tk rfl (pa_cons (pv 2) (pa_cons (pv 3) pa_nil))))))
      (pss_cons (ps_if (pt_cmpR op_ne (pe_fn G_shown (hr.mono (by decide)) tk rfl (pa_cons (pv 2) pa_nil)) (pv 0) (nomark _)) (pss_one (ps_rz rfl T.e_BadText tk rfl)) pss_nil)
      (pss_one (ps_ret (pv 2)))))))))
theorem d_l_refused_k27 (T : Txt c mg) (G_readX : FnIn P w c.K mg base 4 "read" ["text"] (sp_readX c)) (F : Fun c.K "_law_refused" "_law_refused" s_l_refused_k27 f fd) (hm : mg "_law_refused" = some (.ref f)) : FnIn P w c.K mg base 5 "_law_refused" ["text"] (sp_l_refused_k27 c) :=
  fn_by (tt := t_l_refused_k27 c) F hm (F.binds fun _ _ _ _ _ _ us hl => match us, hl with | [_], _ => rfl) sc_l_refused_k27 (by
    intro vs H Q E h
    unfold sp_l_refused_k27 at h
    repeat (first | (obtain ⟨rfl, h⟩ := h; exact rfl) | obtain ⟨_, h⟩ := h)) (pure_l_refused_k27 T.m_BadText_BadText_t T.x_BadText T.i_BadText_BadRiver_f T.i_BadText_NoPoint_f T.i_BadText_Taken_f T.i_BadText_DueError_t)
    (fun cdv A outer s H E hr tk po => by exact (pss_cons (ps_set (i := 1) sc_l_refused_k27.nd rfl (by first | exact .inl rfl | exact .inr rfl) pe_bl)
      (pss_cons (ps_try_as (i := 2) (tb := fun W1 => (tDrop (tFn (sp_readX c) W1 (tCons (tVar 0) tNil)))) (ts := fun a cls d => (tSeq (tAsg (tOrV (tCB (rIsX c.K a cls d) (tCons (tVar 2) (tCons (tC (.ref c.badRiver)) tNil))) (tOrV (tCB (rIsX c.K a cls d) (tCons (tVar 2) (tCons (tC (.ref c.noPoint)) tNil))) (tCB (rIsX c.K a cls d) (tCons (tVar 2) (tCons (tC (.ref c.taken)) tNil))))) (gName 3))
  (tAsg (tAndV (tCB (rIsX c.K a cls d) (tCons (tVar 2) (tCons (tC (.ref c.dueError)) tNil))) (tNotV (tVar 3))) (gName 1)))) (Wout := (wF E)) rfl rfl sc_l_refused_k27.nd rfl rfl ⟨rfl, by decide, .inl T.e_BadText.g⟩ tk
      (fun W1 pn1 xe1 tk1 po1 => (pss_one (ps_expr (pe_fn G_readX (hr.mono (by decide)) tk1 rfl (pa_cons (pv 0) pa_nil)))))
      (fun a oe cls d pn hz hf => (pss_cons (ps_set (i := 3) sc_l_refused_k27.nd rfl (by first | exact .inl rfl | exact .inr rfl) (pe_or (pe_callB (c_isX hz hf) (by rfl) T.b_isinstance (by decide +kernel) (pa_cons (pv 2) (pa_cons (pe_glob rfl T.e_BadRiver.g rfl) pa_nil))) (pe_or (pe_callB (c_isX hz hf) (by rfl) T.b_isinstance (by decide +kernel) (pa_cons (pv 2) (pa_cons (pe_glob rfl T.e_NoPoint.g rfl) pa_nil))) (pe_one (pe_callB (c_isX hz hf) (by rfl) T.b_isinstance (by decide +kernel) (pa_cons (pv 2) (pa_cons (pe_glob rfl T.e_Taken.g rfl) pa_nil)))))))
      (pss_one (ps_set (i := 1) sc_l_refused_k27.nd rfl (by first | exact .inl rfl | exact .inr rfl) (pe_and (pe_callB (c_isX hz hf) (by rfl) T.b_isinstance (by decide +kernel) (pa_cons (pv 2) (pa_cons (pe_glob rfl T.e_DueError.g rfl) pa_nil))) (pe_one (pe_not (pv 3)))))))))
      (pss_one (ps_ret (pv 1))))))
theorem d_law_k27 (T : Txt c mg) (G_l_cell_at : FnIn P w c.K mg base 1 "_law_cell_at" ["script", "k"] (sp_l_cell_at c)) (G_l_below : FnIn P w c.K mg base 2 "_law_below" ["script", "start", "size"] (sp_l_below c)) (G_l_rights : FnIn P w c.K mg base 2 "_law_rights" ["script", "start", "count", "size"] (sp_l_rights c)) (G_l_text : FnIn P w c.K mg base 2 "_law_text" ["below", "rights"] (sp_l_text c)) (G_l_turned : FnIn P w c.K mg base 2 "_law_turned" ["lines", "way", "cell", "other"] (sp_l_turned c)) (G_l_good : FnIn P w c.K mg base 3 "_law_good" ["text"] (sp_l_good c)) (G_l_refused_k27 : FnIn P w c.K mg base 5 "_law_refused" ["text"] (sp_l_refused_k27 c)) (G_readX : FnIn P w c.K mg base 4 "read" ["text"] (sp_readX c)) (G_shown : FnIn P w c.K mg base 2 "shown" ["book"] (sp_shown c)) (F : Fun c.K "law" "law" s_law_k27 f fd) : FnOk P w c.K mg base (L2.CX P w) 6 f fd ["script"] (sp_law_k27 c) :=
  ok_by (tt := t_law_k27 c) F sc_law_k27 (by
    intro vs H Q E h
    unfold sp_law_k27 at h
    try unfold sp_law at h
    repeat (first | (obtain ⟨rfl, h⟩ := h; exact rfl) | obtain ⟨_, h⟩ := h)) (pure_law_k27)
    (fun cdv A outer s H E hr tk po => by exact (pss_cons (ps_set (i := 1) sc_law_k27.nd rfl (by first | exact .inl rfl | exact .inr rfl) (pe_op op_addI pe_int (pe_op op_modI (pe_fn G_l_cell_at (hr.mono (by decide)) tk rfl (pa_cons (pv 0) (pa_cons pe_int pa_nil))) pe_int)))
      (pss_cons (ps_set (i := 2) sc_law_k27.nd rfl (by first | exact .inl rfl | exact .inr rfl) (pe_fn G_l_below (hr.mono (by decide)) tk rfl (pa_cons (pv 0) (pa_cons pe_int (pa_cons (pv 1) pa_nil)))))
      (pss_cons (ps_set (i := 3) sc_law_k27.nd rfl (by first | exact .inl rfl | exact .inr rfl) (pe_fn G_l_rights (hr.mono (by decide)) tk rfl (pa_cons (pv 0) (pa_cons pe_int (pa_cons (pe_op op_addI pe_int (pe_op op_modI (pe_op op_divI (pe_fn G_l_cell_at (hr.mono (by decide)) tk rfl (pa_cons (pv 0) (pa_cons pe_int pa_nil))) pe_int) pe_int)) (pa_cons (pv 1) pa_nil))))))
      (pss_cons (ps_set (i := 4) sc_law_k27.nd rfl (by first | exact .inl rfl | exact .inr rfl) (pe_split (pe_fn G_l_text (hr.mono (by decide)) tk rfl (pa_cons (pv 2) (pa_cons (pv 3) pa_nil))) pe_str))
      (pss_cons (ps_set (i := 5) sc_law_k27.nd rfl (by first | exact .inl rfl | exact .inr rfl) (pe_fn G_l_cell_at (hr.mono (by decide)) tk rfl (pa_cons (pv 0) (pa_cons pe_int pa_nil))))
      (pss_cons (ps_set (i := 6) sc_law_k27.nd rfl (by first | exact .inl rfl | exact .inr rfl) (pe_fn G_l_turned (hr.mono (by decide)) tk rfl (pa_cons (pv 4) (pa_cons (pe_op op_modI (pe_fn G_l_cell_at (hr.mono (by decide)) tk rfl (pa_cons (pv 0) (pa_cons pe_int pa_nil))) pe_int) (pa_cons (pv 5) (pa_cons (pe_fn G_l_cell_at (hr.mono (by decide)) tk rfl (pa_cons (pv 0) (pa_cons pe_int pa_nil))) pa_nil))))))
      (pss_cons (ps_if (pt_not (pt_val (pe_fn G_l_good (hr.mono (by decide)) tk rfl (pa_cons (pv 6) pa_nil)))) (pss_one (ps_ret (pe_fn G_l_refused_k27 (hr.mono (by decide)) tk rfl (pa_cons (pv 6) pa_nil)))) pss_nil)
      (pss_one (ps_ret (pe_cmpR op_eq (pe_fn G_shown (hr.mono (by decide)) tk rfl (pa_cons (pe_fn G_readX (hr.mono (by decide)) tk rfl (pa_cons (pv 6) pa_nil)) pa_nil)) (pv 6) (nomark _))))))))))))
end
theorem all_mk {l : PySem.W.OpenLaw} {w : World} {K : PySem.W.Frag} {h : Heap} {mg : Str → Option Value} {fa : Addr} (X : K.In h) (G : h.Ns mainGlobals mg) (hfa : mg "law" = some (.ref fa))
    {C_River C_Book E_DueError E_BadRiver E_NoPoint E_Taken E_NoRight E_BadText f_l_cell_at f_l_below f_l_names f_l_rights f_l_aged f_l_text f_l_odd f_l_turned f_l_number f_l_right_line f_l_good f_number f_River_initN f_river_ofX f_Book_init f_is_name f_Book_names f_Book_river f_River_points f_Book_free f_River_below f_Book_grant f_grantedX f_Book_right f_shown f_readX f_l_refused_k27 f_law_k27 : Addr}
    {t_FIGURES : Tok}
    {t_LAST_DATE : Tok}
    {t_LETTERS : Tok}
    {t_MOST_AMOUNT : Tok}
    {t_MOST_POINTS : Tok}
    {t_MOST_RIGHTS : Tok}
    {od0 an0 : Option Addr} {sl0 : Array (Option Value)} {oc0 kV0 dc0 pm0 cd0 ct0 : Value}
    {od1 an1 : Option Addr} {sl1 : Array (Option Value)} {oc1 kV1 dc1 pm1 cd1 ct1 : Value}
    {od2 an2 : Option Addr} {sl2 : Array (Option Value)} {oc2 kV2 dc2 pm2 cd2 ct2 : Value}
    {od3 an3 : Option Addr} {sl3 : Array (Option Value)} {oc3 kV3 dc3 pm3 cd3 ct3 : Value}
    {od4 an4 : Option Addr} {sl4 : Array (Option Value)} {oc4 kV4 dc4 pm4 cd4 ct4 : Value}
    {od5 an5 : Option Addr} {sl5 : Array (Option Value)} {oc5 kV5 dc5 pm5 cd5 ct5 : Value}
    {od6 an6 : Option Addr} {sl6 : Array (Option Value)} {oc6 kV6 dc6 pm6 cd6 ct6 : Value}
    {od7 an7 : Option Addr} {sl7 : Array (Option Value)} {oc7 kV7 dc7 pm7 cd7 ct7 : Value}
    {od8 an8 : Option Addr} {sl8 : Array (Option Value)} {oc8 kV8 dc8 pm8 cd8 ct8 : Value}
    {od9 an9 : Option Addr} {sl9 : Array (Option Value)} {oc9 kV9 dc9 pm9 cd9 ct9 : Value}
    {od10 an10 : Option Addr} {sl10 : Array (Option Value)} {oc10 kV10 dc10 pm10 cd10 ct10 : Value}
    {od11 an11 : Option Addr} {sl11 : Array (Option Value)} {oc11 kV11 dc11 pm11 cd11 ct11 : Value}
    {od12 an12 : Option Addr} {sl12 : Array (Option Value)} {oc12 kV12 dc12 pm12 cd12 ct12 : Value}
    {od13 an13 : Option Addr} {sl13 : Array (Option Value)} {oc13 kV13 dc13 pm13 cd13 ct13 : Value}
    {od14 an14 : Option Addr} {sl14 : Array (Option Value)} {oc14 kV14 dc14 pm14 cd14 ct14 : Value}
    {od15 an15 : Option Addr} {sl15 : Array (Option Value)} {oc15 kV15 dc15 pm15 cd15 ct15 : Value}
    {od16 an16 : Option Addr} {sl16 : Array (Option Value)} {oc16 kV16 dc16 pm16 cd16 ct16 : Value}
    {od17 an17 : Option Addr} {sl17 : Array (Option Value)} {oc17 kV17 dc17 pm17 cd17 ct17 : Value}
    {od18 an18 : Option Addr} {sl18 : Array (Option Value)} {oc18 kV18 dc18 pm18 cd18 ct18 : Value}
    {od19 an19 : Option Addr} {sl19 : Array (Option Value)} {oc19 kV19 dc19 pm19 cd19 ct19 : Value}
    {od20 an20 : Option Addr} {sl20 : Array (Option Value)} {oc20 kV20 dc20 pm20 cd20 ct20 : Value}
    {od21 an21 : Option Addr} {sl21 : Array (Option Value)} {oc21 kV21 dc21 pm21 cd21 ct21 : Value}
    {od22 an22 : Option Addr} {sl22 : Array (Option Value)} {oc22 kV22 dc22 pm22 cd22 ct22 : Value}
    {od23 an23 : Option Addr} {sl23 : Array (Option Value)} {oc23 kV23 dc23 pm23 cd23 ct23 : Value}
    {od24 an24 : Option Addr} {sl24 : Array (Option Value)} {oc24 kV24 dc24 pm24 cd24 ct24 : Value}
    {od25 an25 : Option Addr} {sl25 : Array (Option Value)} {oc25 kV25 dc25 pm25 cd25 ct25 : Value}
    {od26 an26 : Option Addr} {sl26 : Array (Option Value)} {oc26 kV26 dc26 pm26 cd26 ct26 : Value}
    {od27 an27 : Option Addr} {sl27 : Array (Option Value)} {oc27 kV27 dc27 pm27 cd27 ct27 : Value}
    (z_int : PySem.W.nsIn K mainGlobals "int" = some none)
    (z_isinstance : PySem.W.nsIn K mainGlobals "isinstance" = some none)
    (z_len : PySem.W.nsIn K mainGlobals "len" = some none)
    (z_list : PySem.W.nsIn K mainGlobals "list" = some none)
    (z_range : PySem.W.nsIn K mainGlobals "range" = some none)
    (z_set : PySem.W.nsIn K mainGlobals "set" = some none)
    (z_sorted : PySem.W.nsIn K mainGlobals "sorted" = some none)
    (z_str : PySem.W.nsIn K mainGlobals "str" = some none)
    (g_FIGURES : PySem.W.nsIn K mainGlobals "FIGURES" = some (some (.str "0123456789" t_FIGURES)))
    (g_LAST_DATE : PySem.W.nsIn K mainGlobals "LAST_DATE" = some (some (.int 9999 t_LAST_DATE)))
    (g_LETTERS : PySem.W.nsIn K mainGlobals "LETTERS" = some (some (.str "abcdefghijklmnopqrstuvwxyz" t_LETTERS)))
    (g_MOST_AMOUNT : PySem.W.nsIn K mainGlobals "MOST_AMOUNT" = some (some (.int 1000000 t_MOST_AMOUNT)))
    (g_MOST_POINTS : PySem.W.nsIn K mainGlobals "MOST_POINTS" = some (some (.int 40 t_MOST_POINTS)))
    (g_MOST_RIGHTS : PySem.W.nsIn K mainGlobals "MOST_RIGHTS" = some (some (.int 40 t_MOST_RIGHTS)))
    (a_River : PySem.W.nsIn K mainGlobals "River" = some (some (.ref C_River)))
    (pg_River : PySem.W.plainGet K C_River Str.empty = true)
    (hd_River : PySem.W.hasDictIn K C_River = true)
    (po_River : PySem.W.plainOver K C_River = true)
    (sa_River : PySem.W.findIn K (.ref C_River) "__setattr__" = some (some (.builtin "object.__setattr__")))
    (mk_River : PySem.W.makesIn K C_River = true)
    (kc_River : PySem.W.keepIn K (.ref C_River) = true)
    (n_River_lower : PySem.W.findIn K (.ref C_River) "lower" = some none)
    (a_Book : PySem.W.nsIn K mainGlobals "Book" = some (some (.ref C_Book)))
    (pg_Book : PySem.W.plainGet K C_Book Str.empty = true)
    (hd_Book : PySem.W.hasDictIn K C_Book = true)
    (po_Book : PySem.W.plainOver K C_Book = true)
    (sa_Book : PySem.W.findIn K (.ref C_Book) "__setattr__" = some (some (.builtin "object.__setattr__")))
    (mk_Book : PySem.W.makesIn K C_Book = true)
    (kc_Book : PySem.W.keepIn K (.ref C_Book) = true)
    (n_Book_stream : PySem.W.findIn K (.ref C_Book) "stream" = some none)
    (n_Book_rows : PySem.W.findIn K (.ref C_Book) "rows" = some none)
    (a_DueError : PySem.W.nsIn K mainGlobals "DueError" = some (some (.ref E_DueError)))
    (x_DueError : PySem.W.excIn K E_DueError [.type "ValueError", .type "Exception", .type "BaseException", .type "object"] "ValueError.__new__" = true)
    (k_DueError : PySem.W.keepIn K (.ref E_DueError) = true)
    (b_DueError : PySem.W.subIn K (.ref E_DueError) (.type "BaseException") = some true)
    (t_DueError : PySem.W.typeIn K (.ref E_DueError) = some (.type "type"))
    (i_DueError : PySem.W.isClsIn K E_DueError = true)
    (a_BadRiver : PySem.W.nsIn K mainGlobals "BadRiver" = some (some (.ref E_BadRiver)))
    (x_BadRiver : PySem.W.excIn K E_BadRiver [.type "ValueError", .type "Exception", .type "BaseException", .type "object"] "ValueError.__new__" = true)
    (k_BadRiver : PySem.W.keepIn K (.ref E_BadRiver) = true)
    (b_BadRiver : PySem.W.subIn K (.ref E_BadRiver) (.type "BaseException") = some true)
    (t_BadRiver : PySem.W.typeIn K (.ref E_BadRiver) = some (.type "type"))
    (i_BadRiver : PySem.W.isClsIn K E_BadRiver = true)
    (a_NoPoint : PySem.W.nsIn K mainGlobals "NoPoint" = some (some (.ref E_NoPoint)))
    (x_NoPoint : PySem.W.excIn K E_NoPoint [.type "ValueError", .type "Exception", .type "BaseException", .type "object"] "ValueError.__new__" = true)
    (k_NoPoint : PySem.W.keepIn K (.ref E_NoPoint) = true)
    (b_NoPoint : PySem.W.subIn K (.ref E_NoPoint) (.type "BaseException") = some true)
    (t_NoPoint : PySem.W.typeIn K (.ref E_NoPoint) = some (.type "type"))
    (i_NoPoint : PySem.W.isClsIn K E_NoPoint = true)
    (a_Taken : PySem.W.nsIn K mainGlobals "Taken" = some (some (.ref E_Taken)))
    (x_Taken : PySem.W.excIn K E_Taken [.type "ValueError", .type "Exception", .type "BaseException", .type "object"] "ValueError.__new__" = true)
    (k_Taken : PySem.W.keepIn K (.ref E_Taken) = true)
    (b_Taken : PySem.W.subIn K (.ref E_Taken) (.type "BaseException") = some true)
    (t_Taken : PySem.W.typeIn K (.ref E_Taken) = some (.type "type"))
    (i_Taken : PySem.W.isClsIn K E_Taken = true)
    (a_NoRight : PySem.W.nsIn K mainGlobals "NoRight" = some (some (.ref E_NoRight)))
    (x_NoRight : PySem.W.excIn K E_NoRight [.type "ValueError", .type "Exception", .type "BaseException", .type "object"] "ValueError.__new__" = true)
    (k_NoRight : PySem.W.keepIn K (.ref E_NoRight) = true)
    (b_NoRight : PySem.W.subIn K (.ref E_NoRight) (.type "BaseException") = some true)
    (t_NoRight : PySem.W.typeIn K (.ref E_NoRight) = some (.type "type"))
    (i_NoRight : PySem.W.isClsIn K E_NoRight = true)
    (a_BadText : PySem.W.nsIn K mainGlobals "BadText" = some (some (.ref E_BadText)))
    (x_BadText : PySem.W.excIn K E_BadText [.type "ValueError", .type "Exception", .type "BaseException", .type "object"] "ValueError.__new__" = true)
    (k_BadText : PySem.W.keepIn K (.ref E_BadText) = true)
    (b_BadText : PySem.W.subIn K (.ref E_BadText) (.type "BaseException") = some true)
    (t_BadText : PySem.W.typeIn K (.ref E_BadText) = some (.type "type"))
    (i_BadText : PySem.W.isClsIn K E_BadText = true)
    (s_BadRiver_BadRiver : PySem.W.subIn K (.ref E_BadRiver) (.ref E_BadRiver) = some true)
    (s_BadText_BadText : PySem.W.subIn K (.ref E_BadText) (.ref E_BadText) = some true)
    (s_BadText_BadRiver : PySem.W.subIn K (.ref E_BadText) (.ref E_BadRiver) = some false)
    (s_BadText_NoPoint : PySem.W.subIn K (.ref E_BadText) (.ref E_NoPoint) = some false)
    (s_NoPoint_NoPoint : PySem.W.subIn K (.ref E_NoPoint) (.ref E_NoPoint) = some true)
    (s_BadText_Taken : PySem.W.subIn K (.ref E_BadText) (.ref E_Taken) = some false)
    (s_Taken_Taken : PySem.W.subIn K (.ref E_Taken) (.ref E_Taken) = some true)
    (s_BadText_DueError : PySem.W.subIn K (.ref E_BadText) (.ref E_DueError) = some true)
    (xg_BadText : PySem.W.findIn K (.ref E_BadText) "__getattribute__" = some (some (.builtin "BaseException.__getattribute__")))
    (xk_BadText : PySem.W.findIn K (.ref E_BadText) "__getattr__" = some none)
    (xd_BadText : PySem.W.hasDictIn K E_BadText = true)
    (xa_BadText : PySem.W.findIn K (.ref E_BadText) "__class__" = some (some (.builtin "object.__class__")))
    (xm_BadText : PySem.W.mroIn K E_BadText (.type "object") = some true)
    (xn : PySem.W.specialIn K (.builtin "object.__class__") "__get__" = some (some (.builtin "getset_descriptor.__get__")))
    (xt : PySem.W.takesIn K (.builtin "object.__class__") = some true)
    (a0 : PySem.W.nsIn K mainGlobals "_law_cell_at" = some (some (.ref f_l_cell_at)))
    (l0 : K.lookup f_l_cell_at = some ⟨oc0, od0, .func (PySem.W.fnOf "_law_cell_at" "_law_cell_at" (defArgs s_l_cell_at) (defBody s_l_cell_at) (defScope s_l_cell_at) .none kV0 dc0 pm0 an0 cd0 ct0), sl0⟩)
    (c0 : PySem.W.codeIn K cd0 "_law_cell_at" = true)
    (k0 : PySem.W.keepIn K (.ref f_l_cell_at) = true)
    (a1 : PySem.W.nsIn K mainGlobals "_law_below" = some (some (.ref f_l_below)))
    (l1 : K.lookup f_l_below = some ⟨oc1, od1, .func (PySem.W.fnOf "_law_below" "_law_below" (defArgs s_l_below) (defBody s_l_below) (defScope s_l_below) .none kV1 dc1 pm1 an1 cd1 ct1), sl1⟩)
    (c1 : PySem.W.codeIn K cd1 "_law_below" = true)
    (k1 : PySem.W.keepIn K (.ref f_l_below) = true)
    (a2 : PySem.W.nsIn K mainGlobals "_law_names" = some (some (.ref f_l_names)))
    (l2 : K.lookup f_l_names = some ⟨oc2, od2, .func (PySem.W.fnOf "_law_names" "_law_names" (defArgs s_l_names) (defBody s_l_names) (defScope s_l_names) .none kV2 dc2 pm2 an2 cd2 ct2), sl2⟩)
    (c2 : PySem.W.codeIn K cd2 "_law_names" = true)
    (k2 : PySem.W.keepIn K (.ref f_l_names) = true)
    (a3 : PySem.W.nsIn K mainGlobals "_law_rights" = some (some (.ref f_l_rights)))
    (l3 : K.lookup f_l_rights = some ⟨oc3, od3, .func (PySem.W.fnOf "_law_rights" "_law_rights" (defArgs s_l_rights) (defBody s_l_rights) (defScope s_l_rights) .none kV3 dc3 pm3 an3 cd3 ct3), sl3⟩)
    (c3 : PySem.W.codeIn K cd3 "_law_rights" = true)
    (k3 : PySem.W.keepIn K (.ref f_l_rights) = true)
    (a4 : PySem.W.nsIn K mainGlobals "_law_aged" = some (some (.ref f_l_aged)))
    (l4 : K.lookup f_l_aged = some ⟨oc4, od4, .func (PySem.W.fnOf "_law_aged" "_law_aged" (defArgs s_l_aged) (defBody s_l_aged) (defScope s_l_aged) .none kV4 dc4 pm4 an4 cd4 ct4), sl4⟩)
    (c4 : PySem.W.codeIn K cd4 "_law_aged" = true)
    (k4 : PySem.W.keepIn K (.ref f_l_aged) = true)
    (a5 : PySem.W.nsIn K mainGlobals "_law_text" = some (some (.ref f_l_text)))
    (l5 : K.lookup f_l_text = some ⟨oc5, od5, .func (PySem.W.fnOf "_law_text" "_law_text" (defArgs s_l_text) (defBody s_l_text) (defScope s_l_text) .none kV5 dc5 pm5 an5 cd5 ct5), sl5⟩)
    (c5 : PySem.W.codeIn K cd5 "_law_text" = true)
    (k5 : PySem.W.keepIn K (.ref f_l_text) = true)
    (a6 : PySem.W.nsIn K mainGlobals "_law_odd" = some (some (.ref f_l_odd)))
    (l6 : K.lookup f_l_odd = some ⟨oc6, od6, .func (PySem.W.fnOf "_law_odd" "_law_odd" (defArgs s_l_odd) (defBody s_l_odd) (defScope s_l_odd) .none kV6 dc6 pm6 an6 cd6 ct6), sl6⟩)
    (c6 : PySem.W.codeIn K cd6 "_law_odd" = true)
    (k6 : PySem.W.keepIn K (.ref f_l_odd) = true)
    (a7 : PySem.W.nsIn K mainGlobals "_law_turned" = some (some (.ref f_l_turned)))
    (l7 : K.lookup f_l_turned = some ⟨oc7, od7, .func (PySem.W.fnOf "_law_turned" "_law_turned" (defArgs s_l_turned) (defBody s_l_turned) (defScope s_l_turned) .none kV7 dc7 pm7 an7 cd7 ct7), sl7⟩)
    (c7 : PySem.W.codeIn K cd7 "_law_turned" = true)
    (k7 : PySem.W.keepIn K (.ref f_l_turned) = true)
    (a8 : PySem.W.nsIn K mainGlobals "_law_number" = some (some (.ref f_l_number)))
    (l8 : K.lookup f_l_number = some ⟨oc8, od8, .func (PySem.W.fnOf "_law_number" "_law_number" (defArgs s_l_number) (defBody s_l_number) (defScope s_l_number) .none kV8 dc8 pm8 an8 cd8 ct8), sl8⟩)
    (c8 : PySem.W.codeIn K cd8 "_law_number" = true)
    (k8 : PySem.W.keepIn K (.ref f_l_number) = true)
    (a9 : PySem.W.nsIn K mainGlobals "_law_right_line" = some (some (.ref f_l_right_line)))
    (l9 : K.lookup f_l_right_line = some ⟨oc9, od9, .func (PySem.W.fnOf "_law_right_line" "_law_right_line" (defArgs s_l_right_line) (defBody s_l_right_line) (defScope s_l_right_line) .none kV9 dc9 pm9 an9 cd9 ct9), sl9⟩)
    (c9 : PySem.W.codeIn K cd9 "_law_right_line" = true)
    (k9 : PySem.W.keepIn K (.ref f_l_right_line) = true)
    (a10 : PySem.W.nsIn K mainGlobals "_law_good" = some (some (.ref f_l_good)))
    (l10 : K.lookup f_l_good = some ⟨oc10, od10, .func (PySem.W.fnOf "_law_good" "_law_good" (defArgs s_l_good) (defBody s_l_good) (defScope s_l_good) .none kV10 dc10 pm10 an10 cd10 ct10), sl10⟩)
    (c10 : PySem.W.codeIn K cd10 "_law_good" = true)
    (k10 : PySem.W.keepIn K (.ref f_l_good) = true)
    (a11 : PySem.W.nsIn K mainGlobals "number" = some (some (.ref f_number)))
    (l11 : K.lookup f_number = some ⟨oc11, od11, .func (PySem.W.fnOf "number" "number" (defArgs s_number) (defBody s_number) (defScope s_number) .none kV11 dc11 pm11 an11 cd11 ct11), sl11⟩)
    (c11 : PySem.W.codeIn K cd11 "number" = true)
    (k11 : PySem.W.keepIn K (.ref f_number) = true)
    (a12 : PySem.W.findIn K (.ref C_River) "__init__" = some (some (.ref f_River_initN)))
    (i12 : PySem.W.isFn K (.ref f_River_initN) = true)
    (l12 : K.lookup f_River_initN = some ⟨oc12, od12, .func (PySem.W.fnOf "__init__" "River.__init__" (defArgs s_River_initN) (defBody s_River_initN) (defScope s_River_initN) .none kV12 dc12 pm12 an12 cd12 ct12), sl12⟩)
    (c12 : PySem.W.codeIn K cd12 "River.__init__" = true)
    (k12 : PySem.W.keepIn K (.ref f_River_initN) = true)
    (a13 : PySem.W.nsIn K mainGlobals "river_of" = some (some (.ref f_river_ofX)))
    (l13 : K.lookup f_river_ofX = some ⟨oc13, od13, .func (PySem.W.fnOf "river_of" "river_of" (defArgs s_river_ofX) (defBody s_river_ofX) (defScope s_river_ofX) .none kV13 dc13 pm13 an13 cd13 ct13), sl13⟩)
    (c13 : PySem.W.codeIn K cd13 "river_of" = true)
    (k13 : PySem.W.keepIn K (.ref f_river_ofX) = true)
    (a14 : PySem.W.findIn K (.ref C_Book) "__init__" = some (some (.ref f_Book_init)))
    (i14 : PySem.W.isFn K (.ref f_Book_init) = true)
    (l14 : K.lookup f_Book_init = some ⟨oc14, od14, .func (PySem.W.fnOf "__init__" "Book.__init__" (defArgs s_Book_init) (defBody s_Book_init) (defScope s_Book_init) .none kV14 dc14 pm14 an14 cd14 ct14), sl14⟩)
    (c14 : PySem.W.codeIn K cd14 "Book.__init__" = true)
    (k14 : PySem.W.keepIn K (.ref f_Book_init) = true)
    (a15 : PySem.W.nsIn K mainGlobals "is_name" = some (some (.ref f_is_name)))
    (l15 : K.lookup f_is_name = some ⟨oc15, od15, .func (PySem.W.fnOf "is_name" "is_name" (defArgs s_is_name) (defBody s_is_name) (defScope s_is_name) .none kV15 dc15 pm15 an15 cd15 ct15), sl15⟩)
    (c15 : PySem.W.codeIn K cd15 "is_name" = true)
    (k15 : PySem.W.keepIn K (.ref f_is_name) = true)
    (a16 : PySem.W.findIn K (.ref C_Book) "names" = some (some (.ref f_Book_names)))
    (i16 : PySem.W.isFn K (.ref f_Book_names) = true)
    (l16 : K.lookup f_Book_names = some ⟨oc16, od16, .func (PySem.W.fnOf "names" "Book.names" (defArgs s_Book_names) (defBody s_Book_names) (defScope s_Book_names) .none kV16 dc16 pm16 an16 cd16 ct16), sl16⟩)
    (c16 : PySem.W.codeIn K cd16 "Book.names" = true)
    (k16 : PySem.W.keepIn K (.ref f_Book_names) = true)
    (a17 : PySem.W.findIn K (.ref C_Book) "river" = some (some (.ref f_Book_river)))
    (i17 : PySem.W.isFn K (.ref f_Book_river) = true)
    (l17 : K.lookup f_Book_river = some ⟨oc17, od17, .func (PySem.W.fnOf "river" "Book.river" (defArgs s_Book_river) (defBody s_Book_river) (defScope s_Book_river) .none kV17 dc17 pm17 an17 cd17 ct17), sl17⟩)
    (c17 : PySem.W.codeIn K cd17 "Book.river" = true)
    (k17 : PySem.W.keepIn K (.ref f_Book_river) = true)
    (a18 : PySem.W.findIn K (.ref C_River) "points" = some (some (.ref f_River_points)))
    (i18 : PySem.W.isFn K (.ref f_River_points) = true)
    (l18 : K.lookup f_River_points = some ⟨oc18, od18, .func (PySem.W.fnOf "points" "River.points" (defArgs s_River_points) (defBody s_River_points) (defScope s_River_points) .none kV18 dc18 pm18 an18 cd18 ct18), sl18⟩)
    (c18 : PySem.W.codeIn K cd18 "River.points" = true)
    (k18 : PySem.W.keepIn K (.ref f_River_points) = true)
    (a19 : PySem.W.findIn K (.ref C_Book) "free" = some (some (.ref f_Book_free)))
    (i19 : PySem.W.isFn K (.ref f_Book_free) = true)
    (l19 : K.lookup f_Book_free = some ⟨oc19, od19, .func (PySem.W.fnOf "free" "Book.free" (defArgs s_Book_free) (defBody s_Book_free) (defScope s_Book_free) .none kV19 dc19 pm19 an19 cd19 ct19), sl19⟩)
    (c19 : PySem.W.codeIn K cd19 "Book.free" = true)
    (k19 : PySem.W.keepIn K (.ref f_Book_free) = true)
    (a20 : PySem.W.findIn K (.ref C_River) "below" = some (some (.ref f_River_below)))
    (i20 : PySem.W.isFn K (.ref f_River_below) = true)
    (l20 : K.lookup f_River_below = some ⟨oc20, od20, .func (PySem.W.fnOf "below" "River.below" (defArgs s_River_below) (defBody s_River_below) (defScope s_River_below) .none kV20 dc20 pm20 an20 cd20 ct20), sl20⟩)
    (c20 : PySem.W.codeIn K cd20 "River.below" = true)
    (k20 : PySem.W.keepIn K (.ref f_River_below) = true)
    (a21 : PySem.W.findIn K (.ref C_Book) "grant" = some (some (.ref f_Book_grant)))
    (i21 : PySem.W.isFn K (.ref f_Book_grant) = true)
    (l21 : K.lookup f_Book_grant = some ⟨oc21, od21, .func (PySem.W.fnOf "grant" "Book.grant" (defArgs s_Book_grant) (defBody s_Book_grant) (defScope s_Book_grant) .none kV21 dc21 pm21 an21 cd21 ct21), sl21⟩)
    (c21 : PySem.W.codeIn K cd21 "Book.grant" = true)
    (k21 : PySem.W.keepIn K (.ref f_Book_grant) = true)
    (a22 : PySem.W.nsIn K mainGlobals "granted" = some (some (.ref f_grantedX)))
    (l22 : K.lookup f_grantedX = some ⟨oc22, od22, .func (PySem.W.fnOf "granted" "granted" (defArgs s_grantedX) (defBody s_grantedX) (defScope s_grantedX) .none kV22 dc22 pm22 an22 cd22 ct22), sl22⟩)
    (c22 : PySem.W.codeIn K cd22 "granted" = true)
    (k22 : PySem.W.keepIn K (.ref f_grantedX) = true)
    (a23 : PySem.W.findIn K (.ref C_Book) "right" = some (some (.ref f_Book_right)))
    (i23 : PySem.W.isFn K (.ref f_Book_right) = true)
    (l23 : K.lookup f_Book_right = some ⟨oc23, od23, .func (PySem.W.fnOf "right" "Book.right" (defArgs s_Book_right) (defBody s_Book_right) (defScope s_Book_right) .none kV23 dc23 pm23 an23 cd23 ct23), sl23⟩)
    (c23 : PySem.W.codeIn K cd23 "Book.right" = true)
    (k23 : PySem.W.keepIn K (.ref f_Book_right) = true)
    (a24 : PySem.W.nsIn K mainGlobals "shown" = some (some (.ref f_shown)))
    (l24 : K.lookup f_shown = some ⟨oc24, od24, .func (PySem.W.fnOf "shown" "shown" (defArgs s_shown) (defBody s_shown) (defScope s_shown) .none kV24 dc24 pm24 an24 cd24 ct24), sl24⟩)
    (c24 : PySem.W.codeIn K cd24 "shown" = true)
    (k24 : PySem.W.keepIn K (.ref f_shown) = true)
    (a25 : PySem.W.nsIn K mainGlobals "read" = some (some (.ref f_readX)))
    (l25 : K.lookup f_readX = some ⟨oc25, od25, .func (PySem.W.fnOf "read" "read" (defArgs s_readX) (defBody s_readX) (defScope s_readX) .none kV25 dc25 pm25 an25 cd25 ct25), sl25⟩)
    (c25 : PySem.W.codeIn K cd25 "read" = true)
    (k25 : PySem.W.keepIn K (.ref f_readX) = true)
    (a26 : PySem.W.nsIn K mainGlobals "_law_refused" = some (some (.ref f_l_refused_k27)))
    (l26 : K.lookup f_l_refused_k27 = some ⟨oc26, od26, .func (PySem.W.fnOf "_law_refused" "_law_refused" (defArgs s_l_refused_k27) (defBody s_l_refused_k27) (defScope s_l_refused_k27) .none kV26 dc26 pm26 an26 cd26 ct26), sl26⟩)
    (c26 : PySem.W.codeIn K cd26 "_law_refused" = true)
    (k26 : PySem.W.keepIn K (.ref f_l_refused_k27) = true)
    (a27 : PySem.W.nsIn K mainGlobals "law" = some (some (.ref f_law_k27)))
    (l27 : K.lookup f_law_k27 = some ⟨oc27, od27, .func (PySem.W.fnOf "law" "law" (defArgs s_law_k27) (defBody s_law_k27) (defScope s_law_k27) .none kV27 dc27 pm27 an27 cd27 ct27), sl27⟩)
    (c27 : PySem.W.codeIn K cd27 "law" = true)
    (k27 : PySem.W.keepIn K (.ref f_law_k27) = true)
    : ∃ fd : FuncData, (∀ (s : Shared) (v : Value), BindsTo s fd ⟨[v], []⟩ [("script", v)]) ∧ ∀ base : Heap, K.In base → base.Ns mainGlobals mg → FnOk l.prog w K mg base (L2.CX l.prog w) 6 fa fd ["script"] (sp_lawK K) := by
  have e := hfa.symm.trans (PySem.W.mg_of X G a27)
  cases e
  let c : Cs := { K := K, river := C_River, book := C_Book, office := 0, dueError := E_DueError, badRiver := E_BadRiver, badYear := 0, noPoint := E_NoPoint, taken := E_Taken, noRight := E_NoRight, notShort := 0, tooMuch := 0, unlike := 0, harm := 0, noPond := 0, notBelow := 0, badText := E_BadText }
  have T : Txt c mg := {
    b_int := PySem.W.mg_none_of X G z_int,
    b_isinstance := PySem.W.mg_none_of X G z_isinstance,
    b_len := PySem.W.mg_none_of X G z_len,
    b_list := PySem.W.mg_none_of X G z_list,
    b_range := PySem.W.mg_none_of X G z_range,
    b_set := PySem.W.mg_none_of X G z_set,
    b_sorted := PySem.W.mg_none_of X G z_sorted,
    b_str := PySem.W.mg_none_of X G z_str,
    e_BadRiver := ⟨PySem.W.mg_of X G a_BadRiver, x_BadRiver, k_BadRiver, b_BadRiver, t_BadRiver⟩,
    e_BadText := ⟨PySem.W.mg_of X G a_BadText, x_BadText, k_BadText, b_BadText, t_BadText⟩,
    e_DueError := ⟨PySem.W.mg_of X G a_DueError, x_DueError, k_DueError, b_DueError, t_DueError⟩,
    e_NoPoint := ⟨PySem.W.mg_of X G a_NoPoint, x_NoPoint, k_NoPoint, b_NoPoint, t_NoPoint⟩,
    e_NoRight := ⟨PySem.W.mg_of X G a_NoRight, x_NoRight, k_NoRight, b_NoRight, t_NoRight⟩,
    e_Taken := ⟨PySem.W.mg_of X G a_Taken, x_Taken, k_Taken, b_Taken, t_Taken⟩,
    g_FIGURES := ⟨t_FIGURES, PySem.W.mg_of X G g_FIGURES⟩,
    g_LAST_DATE := ⟨t_LAST_DATE, PySem.W.mg_of X G g_LAST_DATE⟩,
    g_LETTERS := ⟨t_LETTERS, PySem.W.mg_of X G g_LETTERS⟩,
    g_MOST_AMOUNT := ⟨t_MOST_AMOUNT, PySem.W.mg_of X G g_MOST_AMOUNT⟩,
    g_MOST_POINTS := ⟨t_MOST_POINTS, PySem.W.mg_of X G g_MOST_POINTS⟩,
    g_MOST_RIGHTS := ⟨t_MOST_RIGHTS, PySem.W.mg_of X G g_MOST_RIGHTS⟩,
    bok := ⟨⟨pg_Book, hd_Book, po_Book, sa_Book⟩, n_Book_stream, n_Book_rows⟩,
    i_BadText_BadRiver_f := kit_f i_BadRiver t_BadRiver s_BadText_BadRiver s_BadRiver_BadRiver,
    i_BadText_DueError_t := kit_t i_DueError t_DueError s_BadText_DueError,
    i_BadText_NoPoint_f := kit_f i_NoPoint t_NoPoint s_BadText_NoPoint s_NoPoint_NoPoint,
    i_BadText_Taken_f := kit_f i_Taken t_Taken s_BadText_Taken s_Taken_Taken,
    m_BadRiver_BadRiver_t := exm_of b_BadRiver i_BadRiver t_BadRiver s_BadRiver_BadRiver,
    m_BadText_BadText_t := exm_of b_BadText i_BadText t_BadText s_BadText_BadText,
    riv := ⟨⟨pg_River, hd_River, po_River, sa_River⟩, n_River_lower⟩,
    x_BadText := ⟨xg_BadText, xk_BadText, b_BadText, xd_BadText, xa_BadText, xn, xt, xm_BadText⟩,
    ok := True.intro }
  refine ⟨PySem.W.fnOf "law" "law" (defArgs s_law_k27) (defBody s_law_k27) (defScope s_law_k27) .none kV27 dc27 pm27 an27 cd27 ct27, fun s v => .of_eq rfl, fun base _ _ => ?_⟩
  have G_l_cell_at := d_l_cell_at (P := l.prog) (w := w) (base := base) (c := c) T  (fun_mk (st := s_l_cell_at) l0 c0 k0) (PySem.W.mg_of X G a0)
  have G_l_below := d_l_below (P := l.prog) (w := w) (base := base) (c := c) T G_l_cell_at (fun_mk (st := s_l_below) l1 c1 k1) (PySem.W.mg_of X G a1)
  have G_l_names := d_l_names (P := l.prog) (w := w) (base := base) (c := c) T  (fun_mk (st := s_l_names) l2 c2 k2) (PySem.W.mg_of X G a2)
  have G_l_rights := d_l_rights (P := l.prog) (w := w) (base := base) (c := c) T G_l_cell_at G_l_names (fun_mk (st := s_l_rights) l3 c3 k3) (PySem.W.mg_of X G a3)
  have G_l_aged := d_l_aged (P := l.prog) (w := w) (base := base) (c := c) T  (fun_mk (st := s_l_aged) l4 c4 k4) (PySem.W.mg_of X G a4)
  have G_l_text := d_l_text (P := l.prog) (w := w) (base := base) (c := c) T G_l_aged (fun_mk (st := s_l_text) l5 c5 k5) (PySem.W.mg_of X G a5)
  have G_l_odd := d_l_odd (P := l.prog) (w := w) (base := base) (c := c) T  (fun_mk (st := s_l_odd) l6 c6 k6) (PySem.W.mg_of X G a6)
  have G_l_turned := d_l_turned (P := l.prog) (w := w) (base := base) (c := c) T G_l_odd (fun_mk (st := s_l_turned) l7 c7 k7) (PySem.W.mg_of X G a7)
  have G_l_number := d_l_number (P := l.prog) (w := w) (base := base) (c := c) T  (fun_mk (st := s_l_number) l8 c8 k8) (PySem.W.mg_of X G a8)
  have G_l_right_line := d_l_right_line (P := l.prog) (w := w) (base := base) (c := c) T G_l_number (fun_mk (st := s_l_right_line) l9 c9 k9) (PySem.W.mg_of X G a9)
  have G_l_good := d_l_good (P := l.prog) (w := w) (base := base) (c := c) T G_l_number G_l_right_line G_l_aged (fun_mk (st := s_l_good) l10 c10 k10) (PySem.W.mg_of X G a10)
  have G_number := d_number (P := l.prog) (w := w) (base := base) (c := c) T  (fun_mk (st := s_number) l11 c11 k11) (PySem.W.mg_of X G a11)
  have G_River_initN := d_River_initN (P := l.prog) (w := w) (base := base) (c := c) T  (fun_mk (st := s_River_initN) l12 c12 k12) ⟨mk_River, a12, i12, kc_River⟩ (PySem.W.mg_of X G a_River)
  have G_river_ofX := d_river_ofX (P := l.prog) (w := w) (base := base) (c := c) T G_number G_River_initN (fun_mk (st := s_river_ofX) l13 c13 k13) (PySem.W.mg_of X G a13)
  have G_Book_init := d_Book_init (P := l.prog) (w := w) (base := base) (c := c) T  (fun_mk (st := s_Book_init) l14 c14 k14) ⟨mk_Book, a14, i14, kc_Book⟩ (PySem.W.mg_of X G a_Book)
  have G_is_name := d_is_name (P := l.prog) (w := w) (base := base) (c := c) T  (fun_mk (st := s_is_name) l15 c15 k15) (PySem.W.mg_of X G a15)
  have G_Book_names := d_Book_names (P := l.prog) (w := w) (base := base) (c := c) T  (fun_mk (st := s_Book_names) l16 c16 k16) ⟨a16, i16, k16⟩
  have G_Book_river := d_Book_river (P := l.prog) (w := w) (base := base) (c := c) T  (fun_mk (st := s_Book_river) l17 c17 k17) ⟨a17, i17, k17⟩
  have G_River_points := d_River_points (P := l.prog) (w := w) (base := base) (c := c) T  (fun_mk (st := s_River_points) l18 c18 k18) ⟨a18, i18, k18⟩
  have G_Book_free := d_Book_free (P := l.prog) (w := w) (base := base) (c := c) T  (fun_mk (st := s_Book_free) l19 c19 k19) ⟨a19, i19, k19⟩
  have G_River_below := d_River_below (P := l.prog) (w := w) (base := base) (c := c) T  (fun_mk (st := s_River_below) l20 c20 k20) ⟨a20, i20, k20⟩
  have G_Book_grant := d_Book_grant (P := l.prog) (w := w) (base := base) (c := c) T G_Book_free G_River_below (fun_mk (st := s_Book_grant) l21 c21 k21) ⟨a21, i21, k21⟩
  have G_grantedX := d_grantedX (P := l.prog) (w := w) (base := base) (c := c) T G_is_name G_Book_names G_Book_river G_River_points G_number G_Book_grant (fun_mk (st := s_grantedX) l22 c22 k22) (PySem.W.mg_of X G a22)
  have G_Book_right := d_Book_right (P := l.prog) (w := w) (base := base) (c := c) T  (fun_mk (st := s_Book_right) l23 c23 k23) ⟨a23, i23, k23⟩
  have G_shown := d_shown (P := l.prog) (w := w) (base := base) (c := c) T G_Book_river G_River_points G_River_below G_Book_names G_Book_right (fun_mk (st := s_shown) l24 c24 k24) (PySem.W.mg_of X G a24)
  have G_readX := d_readX (P := l.prog) (w := w) (base := base) (c := c) T G_river_ofX G_Book_init G_grantedX G_shown (fun_mk (st := s_readX) l25 c25 k25) (PySem.W.mg_of X G a25)
  have G_l_refused_k27 := d_l_refused_k27 (P := l.prog) (w := w) (base := base) (c := c) T G_readX (fun_mk (st := s_l_refused_k27) l26 c26 k26) (PySem.W.mg_of X G a26)
  exact d_law_k27 (P := l.prog) (w := w) (base := base) (c := c) T G_l_cell_at G_l_below G_l_rights G_l_text G_l_turned G_l_good G_l_refused_k27 G_readX G_shown (fun_mk (st := s_law_k27) l27 c27 k27)
theorem walk {l : PySem.W.OpenLaw} {q : Program} {loose : List Str} {XP : (Str → Option Value) → Heap → Prop} {YP : World → Heap → Prop} {d : DefRec} {K : Params → PySem.W.Frag} (hn : l.most = some 63) (hdf : d.params.defaults = [])
    (hY : ∀ (w : World) (h : Heap), YP w h → (K w.params).In h)
    (F : ∀ (w : World) (mg : Str → Option Value) (fa : Addr) (h : Heap), (K w.params).In h → h.Ns mainGlobals mg → mg d.name = some (.ref fa) →
      ∃ fd : FuncData, (∀ (s : Shared) (u : Value), BindsTo s fd ⟨[u], []⟩ [("script", u)]) ∧ ∀ base : Heap, (K w.params).In base → base.Ns mainGlobals mg → FnOk l.prog w (K w.params) mg base (L2.CX l.prog w) 6 fa fd ["script"] (sp_lawK (K w.params))) :
    PySem.W.WalkO q loose XP YP l.row.toRowW d [] (fun f vs => PySem.call f vs) :=
  L2.walk_of (n := 63) (k := 6) (x := "script") (CX := fun w => L2.CX l.prog w) (sp := fun w => sp_lawK (K w.params)) hn (by decide) hdf ⟨rfl, by decide, by decide⟩ hY F (fun _ _ a ns hl _ hS => ⟨a, ns, rfl, hS, hl, fun _ => rfl⟩) fun _ _ _ _ _ z => by
    obtain ⟨_, _, _, _, _, _, _, _, _, _, _, _, z⟩ := z
    exact z
end Rv
open PySem PySem.W PyProof.Rows
set_option maxRecDepth 100000 in
set_option maxHeartbeats 0 in
theorem PySem.Challenge.cw_riverdue_k27_texts_refused_holds : PySem.Challenge.rw_riverdue_k27_texts_refused.Holds := by
  w_on; o_law; k_head; (case hw => w_witness2)
  k_fill
  refine Rv.walk (l := PySem.Challenge.rw_riverdue_k27_texts_refused) rfl rfl (fun w h Y => PySem.W.kIn_of Y) ?F
  case F =>
    intro w mg fa h KX G hmg
    refine' Rv.all_mk KX G hmg ?z_int ?z_isinstance ?z_len ?z_list ?z_range ?z_set ?z_sorted ?z_str ?g_FIGURES ?g_LAST_DATE ?g_LETTERS ?g_MOST_AMOUNT ?g_MOST_POINTS ?g_MOST_RIGHTS ?a_River ?pg_River ?hd_River ?po_River ?sa_River ?mk_River ?kc_River ?n_River_lower ?a_Book ?pg_Book ?hd_Book ?po_Book ?sa_Book ?mk_Book ?kc_Book ?n_Book_stream ?n_Book_rows ?a_DueError ?x_DueError ?k_DueError ?b_DueError ?t_DueError ?i_DueError ?a_BadRiver ?x_BadRiver ?k_BadRiver ?b_BadRiver ?t_BadRiver ?i_BadRiver ?a_NoPoint ?x_NoPoint ?k_NoPoint ?b_NoPoint ?t_NoPoint ?i_NoPoint ?a_Taken ?x_Taken ?k_Taken ?b_Taken ?t_Taken ?i_Taken ?a_NoRight ?x_NoRight ?k_NoRight ?b_NoRight ?t_NoRight ?i_NoRight ?a_BadText ?x_BadText ?k_BadText ?b_BadText ?t_BadText ?i_BadText ?s_BadRiver_BadRiver ?s_BadText_BadText ?s_BadText_BadRiver ?s_BadText_NoPoint ?s_NoPoint_NoPoint ?s_BadText_Taken ?s_Taken_Taken ?s_BadText_DueError ?xg_BadText ?xk_BadText ?xd_BadText ?xa_BadText ?xm_BadText ?xn ?xt ?a0 ?l0 ?c0 ?k0 ?a1 ?l1 ?c1 ?k1 ?a2 ?l2 ?c2 ?k2 ?a3 ?l3 ?c3 ?k3 ?a4 ?l4 ?c4 ?k4 ?a5 ?l5 ?c5 ?k5 ?a6 ?l6 ?c6 ?k6 ?a7 ?l7 ?c7 ?k7 ?a8 ?l8 ?c8 ?k8 ?a9 ?l9 ?c9 ?k9 ?a10 ?l10 ?c10 ?k10 ?a11 ?l11 ?c11 ?k11 ?a12 ?i12 ?l12 ?c12 ?k12 ?a13 ?l13 ?c13 ?k13 ?a14 ?i14 ?l14 ?c14 ?k14 ?a15 ?l15 ?c15 ?k15 ?a16 ?i16 ?l16 ?c16 ?k16 ?a17 ?i17 ?l17 ?c17 ?k17 ?a18 ?i18 ?l18 ?c18 ?k18 ?a19 ?i19 ?l19 ?c19 ?k19 ?a20 ?i20 ?l20 ?c20 ?k20 ?a21 ?i21 ?l21 ?c21 ?k21 ?a22 ?l22 ?c22 ?k22 ?a23 ?i23 ?l23 ?c23 ?k23 ?a24 ?l24 ?c24 ?k24 ?a25 ?l25 ?c25 ?k25 ?a26 ?l26 ?c26 ?k26 ?a27 ?l27 ?c27 ?k27
    (case z_int => k_is)
    (case z_isinstance => k_is)
    (case z_len => k_is)
    (case z_list => k_is)
    (case z_range => k_is)
    (case z_set => k_is)
    (case z_sorted => k_is)
    (case z_str => k_is)
    (case g_FIGURES => k_is)
    (case g_LAST_DATE => k_is)
    (case g_LETTERS => k_is)
    (case g_MOST_AMOUNT => k_is)
    (case g_MOST_POINTS => k_is)
    (case g_MOST_RIGHTS => k_is)
    (case a_River => k_is)
    (case pg_River => k_is)
    (case hd_River => k_is)
    (case po_River => k_is)
    (case sa_River => k_is)
    (case mk_River => k_is)
    (case kc_River => k_is)
    (case n_River_lower => k_is)
    (case a_Book => k_is)
    (case pg_Book => k_is)
    (case hd_Book => k_is)
    (case po_Book => k_is)
    (case sa_Book => k_is)
    (case mk_Book => k_is)
    (case kc_Book => k_is)
    (case n_Book_stream => k_is)
    (case n_Book_rows => k_is)
    (case a_DueError => k_is)
    (case x_DueError => k_exc)
    (case k_DueError => k_is)
    (case b_DueError => k_is)
    (case t_DueError => k_is)
    (case i_DueError => k_is)
    (case a_BadRiver => k_is)
    (case x_BadRiver => k_exc)
    (case k_BadRiver => k_is)
    (case b_BadRiver => k_is)
    (case t_BadRiver => k_is)
    (case i_BadRiver => k_is)
    (case a_NoPoint => k_is)
    (case x_NoPoint => k_exc)
    (case k_NoPoint => k_is)
    (case b_NoPoint => k_is)
    (case t_NoPoint => k_is)
    (case i_NoPoint => k_is)
    (case a_Taken => k_is)
    (case x_Taken => k_exc)
    (case k_Taken => k_is)
    (case b_Taken => k_is)
    (case t_Taken => k_is)
    (case i_Taken => k_is)
    (case a_NoRight => k_is)
    (case x_NoRight => k_exc)
    (case k_NoRight => k_is)
    (case b_NoRight => k_is)
    (case t_NoRight => k_is)
    (case i_NoRight => k_is)
    (case a_BadText => k_is)
    (case x_BadText => k_exc)
    (case k_BadText => k_is)
    (case b_BadText => k_is)
    (case t_BadText => k_is)
    (case i_BadText => k_is)
    (case s_BadRiver_BadRiver => first | rfl | k_is)
    (case s_BadText_BadText => first | rfl | k_is)
    (case s_BadText_BadRiver => first | rfl | k_is)
    (case s_BadText_NoPoint => first | rfl | k_is)
    (case s_NoPoint_NoPoint => first | rfl | k_is)
    (case s_BadText_Taken => first | rfl | k_is)
    (case s_Taken_Taken => first | rfl | k_is)
    (case s_BadText_DueError => first | rfl | k_is)
    (case xg_BadText => k_is)
    (case xk_BadText => k_is)
    (case xd_BadText => k_is)
    (case xa_BadText => k_is)
    (case xm_BadText => k_is)
    (case xn => k_is)
    (case xt => k_is)
    (case a0 => k_is)
    (case l0 => k_is)
    (case c0 => k_is)
    (case k0 => k_is)
    (case a1 => k_is)
    (case l1 => k_is)
    (case c1 => k_is)
    (case k1 => k_is)
    (case a2 => k_is)
    (case l2 => k_is)
    (case c2 => k_is)
    (case k2 => k_is)
    (case a3 => k_is)
    (case l3 => k_is)
    (case c3 => k_is)
    (case k3 => k_is)
    (case a4 => k_is)
    (case l4 => k_is)
    (case c4 => k_is)
    (case k4 => k_is)
    (case a5 => k_is)
    (case l5 => k_is)
    (case c5 => k_is)
    (case k5 => k_is)
    (case a6 => k_is)
    (case l6 => k_is)
    (case c6 => k_is)
    (case k6 => k_is)
    (case a7 => k_is)
    (case l7 => k_is)
    (case c7 => k_is)
    (case k7 => k_is)
    (case a8 => k_is)
    (case l8 => k_is)
    (case c8 => k_is)
    (case k8 => k_is)
    (case a9 => k_is)
    (case l9 => k_is)
    (case c9 => k_is)
    (case k9 => k_is)
    (case a10 => k_is)
    (case l10 => k_is)
    (case c10 => k_is)
    (case k10 => k_is)
    (case a11 => k_is)
    (case l11 => k_is)
    (case c11 => k_is)
    (case k11 => k_is)
    (case a12 => k_is)
    (case i12 => k_is)
    (case l12 => k_is)
    (case c12 => k_is)
    (case k12 => k_is)
    (case a13 => k_is)
    (case l13 => k_is)
    (case c13 => k_is)
    (case k13 => k_is)
    (case a14 => k_is)
    (case i14 => k_is)
    (case l14 => k_is)
    (case c14 => k_is)
    (case k14 => k_is)
    (case a15 => k_is)
    (case l15 => k_is)
    (case c15 => k_is)
    (case k15 => k_is)
    (case a16 => k_is)
    (case i16 => k_is)
    (case l16 => k_is)
    (case c16 => k_is)
    (case k16 => k_is)
    (case a17 => k_is)
    (case i17 => k_is)
    (case l17 => k_is)
    (case c17 => k_is)
    (case k17 => k_is)
    (case a18 => k_is)
    (case i18 => k_is)
    (case l18 => k_is)
    (case c18 => k_is)
    (case k18 => k_is)
    (case a19 => k_is)
    (case i19 => k_is)
    (case l19 => k_is)
    (case c19 => k_is)
    (case k19 => k_is)
    (case a20 => k_is)
    (case i20 => k_is)
    (case l20 => k_is)
    (case c20 => k_is)
    (case k20 => k_is)
    (case a21 => k_is)
    (case i21 => k_is)
    (case l21 => k_is)
    (case c21 => k_is)
    (case k21 => k_is)
    (case a22 => k_is)
    (case l22 => k_is)
    (case c22 => k_is)
    (case k22 => k_is)
    (case a23 => k_is)
    (case i23 => k_is)
    (case l23 => k_is)
    (case c23 => k_is)
    (case k23 => k_is)
    (case a24 => k_is)
    (case l24 => k_is)
    (case c24 => k_is)
    (case k24 => k_is)
    (case a25 => k_is)
    (case l25 => k_is)
    (case c25 => k_is)
    (case k25 => k_is)
    (case a26 => k_is)
    (case l26 => k_is)
    (case c26 => k_is)
    (case k26 => k_is)
    (case a27 => k_is)
    (case l27 => k_is)
    (case c27 => k_is)
    (case k27 => k_is)
#print axioms PySem.Challenge.cw_riverdue_k27_texts_refused_holds
