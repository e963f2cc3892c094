import PyProof.Rows.All
import Wide.All
import OpenK.AllK
import Wide.FinOn
import HandS.ForMost
import HandS.ForExc
import HandS.IsInst
import HandS.ExcIs
import HandS.Conv
import HandS.SuiteRaise
import HandS.NoneIn
import HandS.More
import HandS.Deep
import HandS.Zip
import HandS.CallSlots
import HandS.Style
import HandS.Walk
import PySem.Challenge.RW_riverdue_k04_flows
set_option Elab.async false
set_option linter.all false
set_option maxRecDepth 100000
set_option maxHeartbeats 4000000
namespace Rv
open PySem L2
/-! ### heaps -/
/-- all that stood stands -/
structure Ext (H H' : Hp) : Prop where
  g : ∀ a o, H a = some o → H' a = some o
/-- the same, over many steps from an entry heap -/
structure Ac (H H' : Hp) : Prop where
  g : ∀ a o, H a = some o → H' a = some o
/-- all but S stands -/
structure But (S : List Addr) (H H' : Hp) : Prop where
  g : ∀ a o, H a = some o → a ∉ S → H' a = some o
theorem Ext.hl {H H' : Hp} {a : Addr} {o : HO} (e : Ext H H') (h : H a = some o) : H' a = some o := e.g a o h
theorem Ac.hl {H H' : Hp} {a : Addr} {o : HO} (e : Ac H H') (h : H a = some o) : H' a = some o := e.g a o h
theorem But.hl {S : List Addr} {H H' : Hp} {a : Addr} {o : HO} (e : But S H H') (h : H a = some o) (n : a ∉ S) : H' a = some o := e.g a o h n
theorem Ext.refl (H : Hp) : Ext H H := ⟨fun _ _ h => h⟩
theorem Ext.trans {H H1 H2 : Hp} (a : Ext H H1) (b : Ext H1 H2) : Ext H H2 := ⟨fun x o h => b.g x o (a.g x o h)⟩
theorem Ext.ac {H H' : Hp} (e : Ext H H') : Ac H H' := ⟨e.g⟩
theorem Ac.ext {H H' : Hp} (e : Ac H H') : Ext H H' := ⟨e.g⟩
theorem Ac.refl (H : Hp) : Ac H H := ⟨fun _ _ h => h⟩
theorem Ac.step {H H1 H2 : Hp} (a : Ac H H1) (b : Ext H1 H2) : Ac H H2 := ⟨fun x o h => b.g x o (a.g x o h)⟩
theorem Ac.trans {H H1 H2 : Hp} (a : Ac H H1) (b : Ac H1 H2) : Ac H H2 := ⟨fun x o h => b.g x o (a.g x o h)⟩
/-- none of S stood -/
def Frs (H : Hp) (S : List Addr) : Prop := ∀ a ∈ S, H a = none
theorem frs_nil {H : Hp} : Frs H [] := fun a h => by cases h
theorem frs_cons {H : Hp} {a : Addr} {S : List Addr} (h : H a = none) (t : Frs H S) : Frs H (a :: S) := fun b hb => by
  rcases List.mem_cons.mp hb with e | hb
  · rw [e]; exact h
  · exact t b hb
theorem Ac.but {H H1 H2 : Hp} {S : List Addr} (a : Ac H H1) (b : But S H1 H2) (f : Frs H S) : Ac H H2 := ⟨fun x o h => b.g x o (a.g x o h) (fun hx => by
  rw [f x hx] at h
  cases h)⟩
theorem Ac.step' {H H1 H2 : Hp} (b : Ext H1 H2) (a : Ac H H1) : Ac H H2 := a.step b
theorem Ac.but' {H H1 H2 : Hp} {S : List Addr} (b : But S H1 H2) (a : Ac H H1) (f : Frs H S) : Ac H H2 := a.but b f
theorem Ext.free {H H' : Hp} {a : Addr} (e : Ext H H') (h : H' a = none) : H a = none := by
  cases q : H a with
  | none => rfl
  | some o => rw [e.g a o q] at h; cases h
theorem Ac.free {H H' : Hp} {a : Addr} (e : Ac H H') (h : H' a = none) : H a = none := e.ext.free h
theorem free2 {H H' : Hp} {a : Addr} (h : H' a = none) (e : Ac H H') : H a = none := e.free h
theorem ext_new {H : Hp} {p : Addr} {o : HO} (h : H p = none) : Ext H (upd H p o) := ⟨fun a u e => by
  rw [upd_ne (ne_of_none e h)]
  exact e⟩
theorem but_upd {H : Hp} {p : Addr} {o : HO} : But [p] H (upd H p o) := ⟨fun a u e n => by
  rw [upd_ne (fun z => n (by rw [z]; exact List.mem_cons_self))]
  exact e⟩
theorem Ext.but {H H' : Hp} {S : List Addr} (e : Ext H H') : But S H H' := ⟨fun a o h _ => e.g a o h⟩
theorem But.trans {S : List Addr} {H H1 H2 : Hp} (a : But S H H1) (b : But S H1 H2) : But S H H2 := ⟨fun x o h n => b.g x o (a.g x o h n) n⟩
theorem But.step {S : List Addr} {H H1 H2 : Hp} (a : But S H H1) (b : Ext H1 H2) : But S H H2 := ⟨fun x o h n => b.g x o (a.g x o h n)⟩
theorem But.mono {S S' : List Addr} {H H' : Hp} (a : But S H H') (h : ∀ x ∈ S, x ∈ S') : But S' H H' := ⟨fun x o e n => a.g x o e (fun z => n (h x z))⟩
theorem But.frs {S S' : List Addr} {H H1 H2 : Hp} (a : But S H H1) (b : But S' H1 H2) (f : Frs H S') : But S H H2 := ⟨fun x o h n => b.g x o (a.g x o h n) (fun z => by
  rw [f x z] at h
  cases h)⟩
theorem But.ext {H H' : Hp} (e : But [] H H') : Ext H H' := ⟨fun a o h => e.g a o h (fun z => by cases z)⟩
theorem nin_nil {a : Addr} : a ∉ ([] : List Addr) := fun h => by cases h
theorem nin_cons {a b : Addr} {S : List Addr} (h : a ≠ b) (t : a ∉ S) : a ∉ b :: S := fun z => by
  rcases List.mem_cons.mp z with e | z
  · exact h e
  · exact t z
section
variable {K : PySem.W.Frag} {H H' : Hp} {a : Addr} {xs : List V}
theorem Ext.rd {u : HO} (e : Ext H H') (h : Rd H a u) : Rd H' a u := by
  rcases h with h | ⟨o, h⟩
  · exact .inl (e.g _ _ h)
  · exact .inr ⟨o, e.g _ _ h⟩
theorem Ext.sq (e : Ext H H') (h : SqL K H a xs) : SqL K H' a xs := by
  rcases h with h | h
  · exact .inl (e.rd h)
  · exact .inr h
theorem Ext.st (e : Ext H H') (h : SqT K H a xs) : SqT K H' a xs := by
  rcases h with h | h
  · exact .inl (e.rd h)
  · exact .inr h
theorem Ac.sq (e : Ac H H') (h : SqL K H a xs) : SqL K H' a xs := e.ext.sq h
theorem Ac.st (e : Ac H H') (h : SqT K H a xs) : SqT K H' a xs := e.ext.st h
theorem But.rd {S : List Addr} {u : HO} (e : But S H H') (h : Rd H a u) (n : a ∉ S) : Rd H' a u := by
  rcases h with h | ⟨o, h⟩
  · exact .inl (e.g _ _ h n)
  · exact .inr ⟨o, e.g _ _ h n⟩
theorem But.sq {S : List Addr} (e : But S H H') (h : SqL K H a xs) (n : a ∉ S) : SqL K H' a xs := by
  rcases h with h | h
  · exact .inl (e.rd h n)
  · exact .inr h
theorem But.st {S : List Addr} (e : But S H H') (h : SqT K H a xs) (n : a ∉ S) : SqT K H' a xs := by
  rcases h with h | h
  · exact .inl (e.rd h n)
  · exact .inr h
end
theorem ne_nf {H : Hp} {a b : Addr} {o : HO} (h' : H b = none) (h : H a = some o) : a ≠ b := ne_of_none h h'
theorem ne_fn {H : Hp} {a b : Addr} {o : HO} (h' : H a = none) (h : H b = some o) : a ≠ b := (ne_of_none h h').symm
theorem ne_k1 {H : Hp} {a b : Addr} {o u : HO} (h : H a = some o) (h' : H b = some u) (d : o ≠ u) : a ≠ b := ne_of h h' d
theorem ne_k2 {H : Hp} {a b : Addr} {o u : HO} (h : H b = some o) (h' : H a = some u) (d : o ≠ u) : a ≠ b := (ne_of h h' d).symm
theorem sz_le {n : Nat} (h : n ≤ 100000) : n ≤ sizeLine := Nat.le_trans h (by decide)
theorem sz_lt {n : Nat} (h : n < 100000) : n < sizeLine := Nat.lt_of_lt_of_le h (by decide)
end Rv

namespace Rv
open PySem L2
/-! ### named relations of operators, calls, methods -/
def rAddI : R2 := rI0 fun i j => .int (i + j)
def rSubI : R2 := rI0 fun i j => .int (i - j)
def rMulI : R2 := rI CMul fun i j => .int (i * j)
def rDivI : R2 := rI CDiv fun i j => .int (i / j)
def rModI : R2 := rI (fun _ j => 0 < j) fun i j => .int (i % j)
def rPowI : R2 := rI CPow fun i j => .int (i ^ j.toNat)
def rNegI : V → Hp → VK → Prop := rU fun i => .int (-i)
def rLtI : R2 := rI0 fun i j => .bl (decide (i < j))
def rLeI : R2 := rI0 fun i j => .bl (decide (i ≤ j))
def rGtI : R2 := rI0 fun i j => .bl (decide (j < i))
def rGeI : R2 := rI0 fun i j => .bl (decide (j ≤ i))
def rCatS : R2 := fun x y H Q => ∃ i j, x = .str i ∧ y = .str j ∧ i.length + j.length ≤ sizeLine ∧ Q (.str (i ++ j)) H
def rIsNon : R2 := fun x y H Q => y = .non ∧ Q (.bl (decide (x = .non))) H
def rNotNon : R2 := fun x y H Q => y = .non ∧ Q (.bl (!decide (x = .non))) H
def rLenS (K : PySem.W.Frag) : List V → Hp → VK → Prop := fun xs H Q => ∃ p ys, xs = [.ref p] ∧ (SqL K H p ys ∨ SqT K H p ys) ∧ Q (.int ys.length) H
def rLenT : List V → Hp → VK → Prop := fun xs H Q => ∃ z, xs = [.str z] ∧ z.length ≤ sizeLine ∧ Q (.int z.length) H
def rLenD : List V → Hp → VK → Prop := fun xs H Q => ∃ a kvs, xs = [V.ref a] ∧ H a = some (.dK kvs) ∧ Q (.int kvs.length) H
def rListS (K : PySem.W.Frag) : List V → Hp → VK → Prop := fun xs H Q => ∃ p ys, xs = [.ref p] ∧ (SqL K H p ys ∨ SqT K H p ys) ∧ ∀ l, H l = none → Q (.ref l) (upd H l (.lst ys))
def rInt1 : List V → Hp → VK → Prop := fun xs H Q => (∃ i, xs = [.int i] ∧ Q (.int i) H) ∨ ∃ k, xs = [.bl k] ∧ Q (.int (if k then 1 else 0)) H
def rStrI : List V → Hp → VK → Prop := fun xs H Q => ∃ i, xs = [.int i] ∧ i.natAbs.log2 < 1920 ∧ Q (.str (toString i)) H
def rIntS : List V → Hp → VK → Prop := fun xs H Q => ∃ a n, xs = [.str a] ∧ PySem.intText? a = some n ∧ a.length ≤ 640 ∧ Q (.int n) H
def rMax2 : List V → Hp → VK → Prop := fun xs H Q => ∃ i j, xs = [.int i, .int j] ∧ Q (.int (if j > i then j else i)) H
def rMin2 : List V → Hp → VK → Prop := fun xs H Q => ∃ i j, xs = [.int i, .int j] ∧ Q (.int (if j < i then j else i)) H
def rDictP (K : PySem.W.Frag) : List V → Hp → VK → Prop := fun xs H Q => ∃ (a : Addr) (ps : List Addr) (kvs : List (Key × V)), xs = [.ref a] ∧ SqL K H a (ps.map V.ref) ∧ Paired (fun p kv => SqT K H p [kV kv.1, kv.2]) ps kvs ∧
    ∀ p, H p = none → Q (.ref p) (upd H p (.dK (mergeK [] kvs)))
def rInsert : V → List V → Hp → VK → Prop := fun x vs H Q => ∃ (l : Addr) (xs : List V) (i : Int) (y : V), x = .ref l ∧ vs = [.int i, y] ∧ H l = some (.lst xs) ∧ xs.length < sizeLine ∧ 0 ≤ i ∧ i < 2 ^ 63 ∧
    Q .non (upd H l (.lst (xs.take i.toNat ++ [y] ++ xs.drop i.toNat)))
def rSplit : V → List V → Hp → VK → Prop := fun x xs H Q => ∃ a b, x = .str a ∧ xs = [.str b] ∧ (b.length == 0) = false ∧ a.length + 2 ≤ sizeLine ∧ rNewStrs (Txt.split a b) H Q
def rJoin (K : PySem.W.Frag) : V → List V → Hp → VK → Prop := fun x xs H Q => ∃ a p, ∃ ys : List Str, x = .str a ∧ xs = [.ref p] ∧ (SqL K H p (ys.map V.str) ∨ SqT K H p (ys.map V.str)) ∧ (ys.map (·.length)).sum + ys.length * a.length ≤ 16777216 ∧ Q (.str (Txt.join a ys)) H
def rRepS : R2 := fun x y H Q => ∃ (z : Str) (n : Int), x = .str z ∧ y = .int n ∧ z.length ≤ 1000 ∧ 0 ≤ n ∧ n ≤ 1000 ∧ Q (.str (Txt.mul z n)) H
/-- isinstance against a built-in class -/
def rIsB (K : PySem.W.Frag) (n : String) : List V → Hp → VK → Prop := fun xs H Q => ∃ (x : V) (t : String) (b : Bool), xs = [x, .ty n] ∧ TyX K H x (.type t) ∧ kitB t n = some b ∧ Q (.bl b) H
section
variable {X : Cx}
theorem op_addI : OpR X (binaryOp .Add) rAddI := op_add
theorem op_subI : OpR X (binaryOp .Sub) rSubI := op_sub
theorem op_mulI : OpR X (binaryOp .Mult) rMulI := op_mul
theorem op_divI : OpR X (binaryOp .FloorDiv) rDivI := op_fdiv
theorem op_modI : OpR X (binaryOp .Mod) rModI := op_mod
theorem op_powI : OpR X (binaryOp .Pow) rPowI := op_pow
theorem un_negI : UnR X (unaryOp .USub) rNegI := un_neg
theorem op_ltI : OpR X (compareOp .Lt) rLtI := op_lt
theorem op_leI : OpR X (compareOp .LtE) rLeI := op_le
theorem op_gtI : OpR X (compareOp .Gt) rGtI := op_gt
theorem op_geI : OpR X (compareOp .GtE) rGeI := op_ge
theorem op_catS : OpR X (binaryOp .Add) rCatS := op_add_str
theorem op_isNon : OpR X (compareOp .Is) rIsNon := op_isN
theorem op_notNon : OpR X (compareOp .IsNot) rNotNon := op_notN
theorem c_lenS : CallR X (.builtin "len") (rLenS X.K) := call_len_seq
theorem c_lenT : CallR X (.builtin "len") rLenT := call_len_str
theorem c_lenD : CallR X (.builtin "len") rLenD := call_lenD
theorem c_list : CallR X (.type "list") (rListS X.K) := call_list_of
theorem c_int1 : CallR X (.type "int") rInt1 := call_int1
theorem c_strI : CallR X (.type "str") rStrI := call_str_int
theorem c_intS : CallR X (.type "int") rIntS := call_int_str
theorem c_max2 (hc : X.calm = true) : CallR X (.builtin "max") rMax2 := call_max2 hc
theorem c_min2 (hc : X.calm = true) : CallR X (.builtin "min") rMin2 := call_min2 hc
theorem c_dictP (hc : X.calm = true) : CallR X (.type "dict") (rDictP X.K) := call_dictP hc
theorem m_insert : MtR X "list.insert" rInsert := mt_insert
theorem m_split : MtR X "str.split" rSplit := mt_split
theorem m_join : MtR X "str.join" (rJoin X.K) := mt_join
theorem c_isB {n : String} : CallR X (.builtin "isinstance") (rIsB X.K n) := by
  intro pins s σ H xs us Q I r h
  obtain ⟨x, t, b, rfl, ty, e, q⟩ := h
  exact call_isi pins s σ H _ us Q I r ⟨x, .ty n, .type t, .type n, b, rfl, .ty n, ty, kit_ty e, q⟩
end

/-! ### continuations with names -/
def kBl (Q : Bool → Hp → Prop) : VK := fun x H' => ∃ k, x = .bl k ∧ Q k H'
def kFld (K : PySem.W.Frag) (f : Str) (Q : VK) : VK := fun x H1 => ∃ a C dx fs v, x = .ref a ∧ H1 a = some (.ins C dx fs) ∧ Cls K C ∧ NoAttr K C f ∧ fs.lookup f = some v ∧ Q v H1
def kSetF (K : PySem.W.Frag) (f : Str) (y : V) (nx : Hp → Prop) : VK := fun x H2 => ∃ a C dx fs, x = .ref a ∧ H2 a = some (.ins C dx fs) ∧ Cls K C ∧ NoAttr K C f ∧ fs.length < 1000 ∧ nx (upd H2 a (.ins C dx (putF f y fs)))
def kTup (Q : VK) : List V → Hp → Prop := fun xs H1 => xs.length ≤ sizeLine ∧ ∀ p, H1 p = none → Q (.ref p) (upd H1 p (.tup xs))
def kLst (Q : VK) : List V → Hp → Prop := fun xs H1 => xs.length ≤ sizeLine ∧ ∀ p, H1 p = none → Q (.ref p) (upd H1 p (.lst xs))
def kIf (t u : TS) (D : Ends) (σ : L2.St) : Bool → Hp → Prop := fun b H1 => if b = true then t D σ H1 else u D σ H1
def kIfE (ta tb : TE) (σ : L2.St) (Q : VK) : Bool → Hp → Prop := fun c H1 => if c = true then ta σ H1 Q else tb σ H1 Q
def kAnd (u : TT) (σ : L2.St) (Q : Bool → Hp → Prop) : Bool → Hp → Prop := fun c H1 => if c = true then u σ H1 Q else Q false H1
def kOr (u : TT) (σ : L2.St) (Q : Bool → Hp → Prop) : Bool → Hp → Prop := fun c H1 => if c = true then Q true H1 else u σ H1 Q
def kAndV (tb : TE) (σ : L2.St) (Q : VK) : VK := fun x H1 => ∃ c, x = .bl c ∧ if c = true then tb σ H1 Q else Q (.bl false) H1
def kOrV (tb : TE) (σ : L2.St) (Q : VK) : VK := fun x H1 => ∃ c, x = .bl c ∧ if c = true then Q (.bl true) H1 else tb σ H1 Q
def kNotV (Q : VK) : VK := fun x H1 => ∃ c, x = .bl c ∧ Q (.bl (!c)) H1
def kChain (r' : R2) (tc : TE) (σ : L2.St) (y : V) (Q : VK) : VK := fun z H3 => ∃ k, z = .bl k ∧ (if k = true then tc σ H3 fun w' H4 => r' y w' H4 Q else Q (.bl false) H3)
def kTy (K : PySem.W.Frag) (T : String) (R : V → Hp → Prop) : VK := fun x H1 => tyV K T x H1 ∧ R x H1
def kMeth (C : Addr) (m : Str) (σ : L2.St) (t : TA) (R : V → List V → Hp → Prop) : VK := fun x H1 => ∃ a dx fs, x = .ref a ∧ H1 a = some (.ins C dx fs) ∧ fs.lookup m = none ∧ t σ H1 fun vs H2 => R x vs H2
def kStr (R : V → Hp → Prop) : VK := fun x H1 => (∃ a, x = .str a) ∧ R x H1
def kDGet (Q : VK) (x y : V) (H2 : Hp) : Prop := ∃ a v, x = .ref a ∧ DGet H2 a y (some v) ∧ Q v H2
def kDIn (Q : VK) (y x : V) (H2 : Hp) : Prop := ∃ a o, x = .ref a ∧ DGet H2 a y o ∧ Q (.bl o.isSome) H2
def kDNotIn (Q : VK) (y x : V) (H2 : Hp) : Prop := ∃ a o, x = .ref a ∧ DGet H2 a y o ∧ Q (.bl (!o.isSome)) H2
def kDPut (nx : Hp → Prop) (v x y : V) (H3 : Hp) : Prop := ∃ a H4, x = .ref a ∧ DPut H3 a y v H4 ∧ nx H4
def kDGet2 (σ : L2.St) (ty tx : TE) (Q : VK) : VK := fun x H1 => ∃ a, x = .ref a ∧ IsD H1 a ∧ ty σ H1 fun y H2 => tx σ H2 fun z H3 => ∃ o, DGet H3 a y o ∧ Q (o.getD z) H3
def kPart (Q : Option Int → Hp → Prop) : VK := fun x H1 => ∃ i, x = .int i ∧ Q (some i) H1
/-! ### a method's call, a class's, with the wish at the slots -/
def tMethS (C : Addr) (m : Str) (sp : Sp) (W : WX) (ta : TE) (t : TA) : TE := fun σ H Q => ta σ H fun x H1 => ∃ a dx fs, x = .ref a ∧ H1 a = some (.ins C dx fs) ∧ fs.lookup m = none ∧ t σ H1 fun vs H2 => sp (x :: vs) H2 Q (WE W σ)
def tMakeS (C : Addr) (sp : Sp) (W : WX) (t : TA) : TE := fun σ H Q => t σ H fun vs H1 => ∀ x dx, H1 x = none → H1 dx = none → dx ≠ x →
  sp (.ref x :: vs) (upd (upd H1 dx (.own x)) x (.ins C dx [])) (fun v H2 => v = .non ∧ Q (.ref x) H2) (WE W σ)
def tFn (sp : Sp) (W : WX) (t : TA) : TE := tCallS sp (WE W) t
def tRaise (W : WX) (C : Addr) : TS := fun _ σ H => W (.ref C) none σ H
/-- what a def wishes of what leaves it; what nothing wishes -/
def wF (E : XK) : WX := fun cls d _ H => E cls d H
def wN : WX := fun _ _ _ _ => False
section
variable {K : PySem.W.Frag} {σ : L2.St} {H H' : Hp} {Q : VK} {QB : Bool → Hp → Prop} {D : Ends} {ta tb tc te : TE} {t u : TT} {s1 s2 : TS} {r r' : R2} {tl : TA}
theorem r_var {i : Nat} {v : V} (h : σ[i]? = some (some v)) (q : Q v H) : tVar i σ H Q := ⟨v, h, q⟩
theorem r_c {v : V} (q : Q v H) : tC v σ H Q := q
theorem r_op (h : ta σ H fun x H1 => tb σ H1 fun y H2 => r x y H2 Q) : tOp r ta tb σ H Q := h
theorem r_un {r : V → Hp → VK → Prop} (h : ta σ H fun x H1 => r x H1 Q) : tUn r ta σ H Q := h
theorem r_chain (h : ta σ H fun x H1 => tb σ H1 fun y H2 => r x y H2 (kChain r' tc σ y Q)) : tChain r r' ta tb tc σ H Q := h
theorem r_test (h : te σ H (kBl QB)) : tTest te σ H QB := h
theorem r_tB (h : te σ H (kBl QB)) : tB te σ H QB := h
theorem r_not (h : t σ H fun c H1 => QB (!c) H1) : tNot t σ H QB := h
theorem r_and (h : t σ H (kAnd u σ QB)) : tAnd t u σ H QB := h
theorem r_or (h : t σ H (kOr u σ QB)) : tOr t u σ H QB := h
theorem r_andV (h : ta σ H (kAndV tb σ Q)) : tAndV ta tb σ H Q := h
theorem r_orV (h : ta σ H (kOrV tb σ Q)) : tOrV ta tb σ H Q := h
theorem r_notV (h : ta σ H (kNotV Q)) : tNotV ta σ H Q := h
theorem r_ifE (h : t σ H (kIfE ta tb σ Q)) : tIf t ta tb σ H Q := h
theorem r_nil {QL : List V → Hp → Prop} (q : QL [] H) : tNil σ H QL := q
theorem r_cons {QL : List V → Hp → Prop} (h : ta σ H fun x H1 => tl σ H1 fun xs H2 => QL (x :: xs) H2) : tCons ta tl σ H QL := h
theorem r_tup (h : tl σ H (kTup Q)) : tTup tl σ H Q := h
theorem r_lst (h : tl σ H (kLst Q)) : tLst tl σ H Q := h
theorem r_fld {f : Str} (h : ta σ H (kFld K f Q)) : tFld K ta f σ H Q := h
theorem r_fn {sp : Sp} {W : WX} (h : tl σ H fun vs H1 => sp vs H1 Q (WE W σ)) : tFn sp W tl σ H Q := h
theorem r_meth {C : Addr} {m : Str} {sp : Sp} {W : WX} (h : ta σ H (kMeth C m σ tl fun x vs H2 => sp (x :: vs) H2 Q (WE W σ))) : tMethS C m sp W ta tl σ H Q := h
theorem r_CB {rr : List V → Hp → VK → Prop} (h : tl σ H fun vs H1 => rr vs H1 Q) : tCB rr tl σ H Q := h
theorem r_BM {T : String} {rr : V → List V → Hp → VK → Prop} (h : ta σ H (kTy K T fun x H1 => tl σ H1 fun xs H2 => rr x xs H2 Q)) : tBM K T rr ta tl σ H Q := h
theorem r_BM0 {T : String} {rr : V → List V → Hp → VK → Prop} (h : ta σ H (kTy K T fun x H1 => rr x [] H1 Q)) : tBM0 K T rr ta σ H Q := h
theorem r_M1 {rr : V → List V → Hp → VK → Prop} (h : ta σ H (kStr fun x H1 => te σ H1 fun y H2 => rr x [y] H2 Q)) : tM1 rr ta te σ H Q := h
theorem r_dget (h : ta σ H fun x H1 => tb σ H1 fun y H2 => kDGet Q x y H2) : tDGet ta tb σ H Q := h
theorem r_din (h : ta σ H fun y H1 => tb σ H1 fun x H2 => kDIn Q y x H2) : tDIn ta tb σ H Q := h
theorem r_dnotin (h : ta σ H fun y H1 => tb σ H1 fun x H2 => kDNotIn Q y x H2) : tDNotIn ta tb σ H Q := h
theorem r_dget2 (h : ta σ H (kDGet2 σ tb tc Q)) : tDGet2 ta tb tc σ H Q := h
theorem r_sl {rr : V → Option Int → Option Int → Hp → VK → Prop} {tl th : TO} (h : te σ H fun x H1 => tl σ H1 fun l H2 => th σ H2 fun w H3 => rr x l w H3 Q) : tSl rr te tl th σ H Q := h
theorem r_nopart {QO : Option Int → Hp → Prop} (q : QO none H) : tNoPart σ H QO := q
theorem r_part {QO : Option Int → Hp → Prop} (h : te σ H (kPart QO)) : tPart te σ H QO := h
theorem r_seq (h : s1 { D with nx := s2 D } σ H) : tSeq s1 s2 D σ H := h
theorem r_next (h : D.nx σ H) : tNext D σ H := h
theorem r_asg {i : Nat} (h : te σ H fun x H1 => D.nx (σ.set i (some x)) H1) : tAsg te (gName i) D σ H := h
theorem r_ret (h : te σ H D.rt) : tRet te D σ H := h
theorem r_retN (h : D.rt .non H) : tRetN D σ H := h
theorem r_drop (h : te σ H fun _ H1 => D.nx σ H1) : tDrop te D σ H := h
theorem r_if (h : t σ H (kIf s1 s2 D σ)) : tIfS t s1 s2 D σ H := h
theorem r_setF {f : Str} (h : tb σ H fun y H1 => ta σ H1 (kSetF K f y (fun H2 => D.nx σ H2))) : sFld K ta tb f D σ H := h
theorem r_dput (h : tc σ H fun v H1 => ta σ H1 fun x H2 => tb σ H2 fun y H3 => kDPut (fun H4 => D.nx σ H4) v x y H3) : sDPut ta tb tc D σ H := h
theorem r_setI (h : tc σ H fun v H1 => ta σ H1 fun o H2 => tb σ H2 fun i H3 => rSetL o i v H3 fun H4 => D.nx σ H4) : tAsg tc (gSub ta tb rSetL) D σ H := h
theorem r_raise {W : WX} {C : Addr} (h : W (.ref C) none σ H) : tRaise W C D σ H := h
theorem r_wF {E : XK} {cls : Value} {d : Option Addr} (h : E cls d H) : wF E cls d σ H := h
/-! ### values reached -/
theorem k_bl {b : Bool} (q : QB b H) : kBl QB (.bl b) H := ⟨b, rfl, q⟩
theorem k_fld {f : Str} {a C dx : Addr} {fs : List (Str × V)} {v : V} (h : H a = some (.ins C dx fs)) (hc : Cls K C) (hn : NoAttr K C f) (hl : fs.lookup f = some v) (q : Q v H) : kFld K f Q (.ref a) H := ⟨a, C, dx, fs, v, rfl, h, hc, hn, hl, q⟩
theorem k_setF {f : Str} {y : V} {nx : Hp → Prop} {a C dx : Addr} {fs : List (Str × V)} (h : H a = some (.ins C dx fs)) (hc : Cls K C) (hn : NoAttr K C f) (hl : fs.length < 1000)
    (q : ∀ H', But [a] H H' → H' a = some (.ins C dx (putF f y fs)) → nx H') : kSetF K f y nx (.ref a) H := ⟨a, C, dx, fs, rfl, h, hc, hn, hl, q _ but_upd upd_same⟩
theorem k_tup {xs : List V} (hl : xs.length ≤ sizeLine) (q : ∀ p H', H p = none → Ext H H' → H' p = some (.tup xs) → Q (.ref p) H') : kTup Q xs H := ⟨hl, fun p hp => q p _ hp (ext_new hp) upd_same⟩
theorem k_lst {xs : List V} (hl : xs.length ≤ sizeLine) (q : ∀ p H', H p = none → Ext H H' → H' p = some (.lst xs) → Q (.ref p) H') : kLst Q xs H := ⟨hl, fun p hp => q p _ hp (ext_new hp) upd_same⟩
theorem k_if {b : Bool} (h1 : b = true → s1 D σ H) (h2 : b = false → s2 D σ H) : kIf s1 s2 D σ b H := by
  cases b with
  | true => exact h1 rfl
  | false => exact h2 rfl
theorem k_ifT {b : Bool} (hb : b = true) (h1 : s1 D σ H) : kIf s1 s2 D σ b H := by
  subst hb
  exact h1
theorem k_ifF {b : Bool} (hb : b = false) (h1 : s2 D σ H) : kIf s1 s2 D σ b H := by
  subst hb
  exact h1
theorem k_ifE {b : Bool} (h1 : b = true → ta σ H Q) (h2 : b = false → tb σ H Q) : kIfE ta tb σ Q b H := by
  cases b with
  | true => exact h1 rfl
  | false => exact h2 rfl
theorem k_and {b : Bool} (h1 : b = true → u σ H QB) (h2 : b = false → QB false H) : kAnd u σ QB b H := by
  cases b with
  | true => exact h1 rfl
  | false => exact h2 rfl
theorem k_or {b : Bool} (h1 : b = true → QB true H) (h2 : b = false → u σ H QB) : kOr u σ QB b H := by
  cases b with
  | true => exact h1 rfl
  | false => exact h2 rfl
theorem k_andT (h1 : u σ H QB) : kAnd u σ QB true H := h1
theorem k_andF (h1 : QB false H) : kAnd u σ QB false H := h1
theorem k_orT (h1 : QB true H) : kOr u σ QB true H := h1
theorem k_orF (h1 : u σ H QB) : kOr u σ QB false H := h1
theorem k_andV {b : Bool} (h1 : b = true → tb σ H Q) (h2 : b = false → Q (.bl false) H) : kAndV tb σ Q (.bl b) H := ⟨b, rfl, by
  cases b with
  | true => exact h1 rfl
  | false => exact h2 rfl⟩
theorem k_orV {b : Bool} (h1 : b = true → Q (.bl true) H) (h2 : b = false → tb σ H Q) : kOrV tb σ Q (.bl b) H := ⟨b, rfl, by
  cases b with
  | true => exact h1 rfl
  | false => exact h2 rfl⟩
theorem k_andVT (h1 : tb σ H Q) : kAndV tb σ Q (.bl true) H := ⟨true, rfl, h1⟩
theorem k_andVF (h1 : Q (.bl false) H) : kAndV tb σ Q (.bl false) H := ⟨false, rfl, h1⟩
theorem k_orVT (h1 : Q (.bl true) H) : kOrV tb σ Q (.bl true) H := ⟨true, rfl, h1⟩
theorem k_orVF (h1 : tb σ H Q) : kOrV tb σ Q (.bl false) H := ⟨false, rfl, h1⟩
theorem k_notV {b : Bool} (q : Q (.bl (!b)) H) : kNotV Q (.bl b) H := ⟨b, rfl, q⟩
theorem k_chain {b : Bool} {y : V} (h1 : b = true → tc σ H fun w' H4 => r' y w' H4 Q) (h2 : b = false → Q (.bl false) H) : kChain r' tc σ y Q (.bl b) H := ⟨b, rfl, by
  cases b with
  | true => exact h1 rfl
  | false => exact h2 rfl⟩
theorem k_tyL {R : V → Hp → Prop} {a : Addr} {xs : List V} (h : H a = some (.lst xs)) (q : R (.ref a) H) : kTy K "list" R (.ref a) H := ⟨.inl ⟨rfl, _, SqL.of h⟩, q⟩
theorem k_tyQ {R : V → Hp → Prop} {a : Addr} {xs : List V} (h : SqL K H a xs) (q : R (.ref a) H) : kTy K "list" R (.ref a) H := ⟨.inl ⟨rfl, _, h⟩, q⟩
theorem k_str {R : V → Hp → Prop} {z : Str} (q : R (.str z) H) : kStr R (.str z) H := ⟨⟨z, rfl⟩, q⟩
theorem k_meth {C : Addr} {m : Str} {R : V → List V → Hp → Prop} {a dx : Addr} {fs : List (Str × V)} (h : H a = some (.ins C dx fs)) (hl : fs.lookup m = none) (q : tl σ H fun vs H2 => R (.ref a) vs H2) : kMeth C m σ tl R (.ref a) H := ⟨a, dx, fs, rfl, h, hl, q⟩
theorem k_part {QO : Option Int → Hp → Prop} {i : Int} (q : QO (some i) H) : kPart QO (.int i) H := ⟨i, rfl, q⟩
/-! ints -/
variable {i j : Int}
theorem k_addI (q : Q (.int (i + j)) H) : rAddI (.int i) (.int j) H Q := ⟨i, j, rfl, rfl, q⟩
theorem k_subI (q : Q (.int (i - j)) H) : rSubI (.int i) (.int j) H Q := ⟨i, j, rfl, rfl, q⟩
theorem k_mulI (h : CMul i j) (q : Q (.int (i * j)) H) : rMulI (.int i) (.int j) H Q := ⟨i, j, rfl, rfl, h, q⟩
theorem k_divI (h : CDiv i j) (q : Q (.int (i / j)) H) : rDivI (.int i) (.int j) H Q := ⟨i, j, rfl, rfl, h, q⟩
theorem k_modI (h : 0 < j) (q : Q (.int (i % j)) H) : rModI (.int i) (.int j) H Q := ⟨i, j, rfl, rfl, h, q⟩
theorem k_powI (h : CPow i j) (q : Q (.int (i ^ j.toNat)) H) : rPowI (.int i) (.int j) H Q := ⟨i, j, rfl, rfl, h, q⟩
theorem k_negI (q : Q (.int (-i)) H) : rNegI (.int i) H Q := ⟨i, rfl, q⟩
theorem k_ltI (q : Q (.bl (decide (i < j))) H) : rLtI (.int i) (.int j) H Q := ⟨i, j, rfl, rfl, q⟩
theorem k_leI (q : Q (.bl (decide (i ≤ j))) H) : rLeI (.int i) (.int j) H Q := ⟨i, j, rfl, rfl, q⟩
theorem k_gtI (q : Q (.bl (decide (j < i))) H) : rGtI (.int i) (.int j) H Q := ⟨i, j, rfl, rfl, q⟩
theorem k_geI (q : Q (.bl (decide (j ≤ i))) H) : rGeI (.int i) (.int j) H Q := ⟨i, j, rfl, rfl, q⟩
theorem dec_int : decide (V.int i = V.int j) = decide (i = j) := by
  by_cases h : i = j
  · rw [h, decide_eq_true rfl, decide_eq_true rfl]
  · rw [decide_eq_false h, decide_eq_false (fun z => h (V.int.inj z))]
theorem dec_str {x y : Str} : decide (V.str x = V.str y) = decide (x = y) := by
  by_cases h : x = y
  · rw [h, decide_eq_true rfl, decide_eq_true rfl]
  · rw [decide_eq_false h, decide_eq_false (fun z => h (V.str.inj z))]
theorem k_eqI (q : Q (.bl (decide (i = j))) H) : rEq (.int i) (.int j) H Q := ⟨rfl, by rw [dec_int]; exact q⟩
theorem k_neI (q : Q (.bl (!decide (i = j))) H) : rNe (.int i) (.int j) H Q := ⟨rfl, by rw [dec_int]; exact q⟩
theorem k_eqS {x y : Str} (q : Q (.bl (decide (x = y))) H) : rEq (.str x) (.str y) H Q := ⟨rfl, by rw [dec_str]; exact q⟩
theorem k_neS {x y : Str} (q : Q (.bl (!decide (x = y))) H) : rNe (.str x) (.str y) H Q := ⟨rfl, by rw [dec_str]; exact q⟩
theorem k_eqV {x y : V} (h : scal x y = true) (q : Q (.bl (decide (x = y))) H) : rEq x y H Q := ⟨h, q⟩
theorem k_neV {x y : V} (h : scal x y = true) (q : Q (.bl (!decide (x = y))) H) : rNe x y H Q := ⟨h, q⟩
theorem k_isNN (q : Q (.bl true) H) : rIsNon .non .non H Q := ⟨rfl, q⟩
theorem k_isNI (q : Q (.bl false) H) : rIsNon (.int i) .non H Q := ⟨rfl, q⟩
theorem k_isNR {a : Addr} (q : Q (.bl false) H) : rIsNon (.ref a) .non H Q := ⟨rfl, q⟩
theorem k_notNN (q : Q (.bl false) H) : rNotNon .non .non H Q := ⟨rfl, q⟩
theorem k_notNI (q : Q (.bl true) H) : rNotNon (.int i) .non H Q := ⟨rfl, q⟩
theorem k_notNR {a : Addr} (q : Q (.bl true) H) : rNotNon (.ref a) .non H Q := ⟨rfl, q⟩
theorem k_catS {x y : Str} (h : x.length + y.length ≤ sizeLine) (q : Q (.str (x ++ y)) H) : rCatS (.str x) (.str y) H Q := ⟨x, y, rfl, rfl, h, q⟩
/-! lists, tuples, texts -/
theorem k_cat {l b : Addr} {xs ys : List V} (h1 : H l = some (.lst xs)) (h2 : H b = some (.lst ys)) (hz : xs.length + ys.length ≤ sizeLine) (q : ∀ p H', H p = none → Ext H H' → H' p = some (.lst (xs ++ ys)) → Q (.ref p) H') : rCat (.ref l) (.ref b) H Q :=
  ⟨l, b, xs, ys, rfl, rfl, h1, h2, hz, fun p hp => q p _ hp (ext_new hp) upd_same⟩
theorem k_ixL {a : Addr} {xs : List V} {v : V} (h : SqL K H a xs) (ha : atI xs i = some v) (q : Q v H) : rIxL K (.ref a) (.int i) H Q := ⟨a, xs, i, v, rfl, rfl, h, ha, q⟩
theorem k_ixT {a : Addr} {xs : List V} {v : V} (h : SqT K H a xs) (ha : atI xs i = some v) (q : Q v H) : rIxT K (.ref a) (.int i) H Q := ⟨a, xs, i, v, rfl, rfl, h, ha, q⟩
theorem k_ixS {z : Str} {c : Nat} (h : z.length ≤ sizeLine) (ha : atI z.cps.toList i = some c) (q : Q (.str ⟨#[c]⟩) H) : rIxS (.str z) (.int i) H Q := ⟨z, i, c, rfl, rfl, h, ha, q⟩
theorem k_setI {a : Addr} {xs : List V} {k : Nat} {v : V} {nx : Hp → Prop} (h : H a = some (.lst xs)) (hk : ixN xs.length i = some k) (q : ∀ H', But [a] H H' → H' a = some (.lst (xs.set k v)) → nx H') : rSetL (.ref a) (.int i) v H nx :=
  ⟨a, xs, i, k, rfl, rfl, h, hk, q _ but_upd upd_same⟩
theorem k_lenL {a : Addr} {xs : List V} (h : SqL K H a xs) (q : Q (.int xs.length) H) : rLenS K [.ref a] H Q := ⟨a, xs, rfl, .inl h, q⟩
theorem k_lenU {a : Addr} {xs : List V} (h : SqT K H a xs) (q : Q (.int xs.length) H) : rLenS K [.ref a] H Q := ⟨a, xs, rfl, .inr h, q⟩
theorem k_lenT {z : Str} (h : z.length ≤ sizeLine) (q : Q (.int z.length) H) : rLenT [.str z] H Q := ⟨z, rfl, h, q⟩
theorem k_lenD {a : Addr} {kvs : List (Key × V)} (h : H a = some (.dK kvs)) (q : Q (.int kvs.length) H) : rLenD [.ref a] H Q := ⟨a, kvs, rfl, h, q⟩
theorem k_list {a : Addr} {xs : List V} (h : SqL K H a xs) (q : ∀ p H', H p = none → Ext H H' → H' p = some (.lst xs) → Q (.ref p) H') : rListS K [.ref a] H Q := ⟨a, xs, rfl, .inl h, fun p hp => q p _ hp (ext_new hp) upd_same⟩
theorem k_int1 {b : Bool} (q : Q (.int (if b then 1 else 0)) H) : rInt1 [.bl b] H Q := .inr ⟨b, rfl, q⟩
theorem k_strI (h : i.natAbs.log2 < 1920) (q : Q (.str (toString i)) H) : rStrI [.int i] H Q := ⟨i, rfl, h, q⟩
theorem k_intS {z : Str} {n : Int} (h : PySem.intText? z = some n) (hz : z.length ≤ 640) (q : Q (.int n) H) : rIntS [.str z] H Q := ⟨z, n, rfl, h, hz, q⟩
theorem k_max2 (q : Q (.int (if j > i then j else i)) H) : rMax2 [.int i, .int j] H Q := ⟨i, j, rfl, q⟩
theorem k_min2 (q : Q (.int (if j < i then j else i)) H) : rMin2 [.int i, .int j] H Q := ⟨i, j, rfl, q⟩
theorem k_append {a : Addr} {xs : List V} {y : V} (h : H a = some (.lst xs)) (hz : xs.length < sizeLine) (q : ∀ H', But [a] H H' → H' a = some (.lst (xs ++ [y])) → Q .non H') : rAppend (.ref a) [y] H Q := ⟨a, xs, y, rfl, rfl, h, hz, q _ but_upd upd_same⟩
theorem k_clear {a : Addr} {xs : List V} (h : H a = some (.lst xs)) (q : ∀ H', But [a] H H' → H' a = some (.lst []) → Q .non H') : rClear (.ref a) [] H Q := ⟨a, xs, rfl, rfl, h, q _ but_upd upd_same⟩
theorem k_isB_ii (q : Q (.bl true) H) : rIsB K "int" [.int i, .ty "int"] H Q := ⟨_, "int", true, rfl, .base (.int i), by decide +kernel, q⟩
theorem k_isB_ib (q : Q (.bl false) H) : rIsB K "bool" [.int i, .ty "bool"] H Q := ⟨_, "int", false, rfl, .base (.int i), by decide +kernel, q⟩
theorem k_isB_bi {x : Bool} (q : Q (.bl true) H) : rIsB K "int" [.bl x, .ty "int"] H Q := ⟨_, "bool", true, rfl, .base (.bl x), by decide +kernel, q⟩
theorem k_isB_bb {x : Bool} (q : Q (.bl true) H) : rIsB K "bool" [.bl x, .ty "bool"] H Q := ⟨_, "bool", true, rfl, .base (.bl x), by decide +kernel, q⟩
theorem k_isB_ni (q : Q (.bl false) H) : rIsB K "int" [.non, .ty "int"] H Q := ⟨_, "NoneType", false, rfl, .base .non, by decide +kernel, q⟩
theorem k_isB_ss {x : Str} (q : Q (.bl true) H) : rIsB K "str" [.str x, .ty "str"] H Q := ⟨_, "str", true, rfl, .base (.str x), by decide +kernel, q⟩
theorem k_isB_ll {a : Addr} {xs : List V} (h : H a = some (.lst xs)) (q : Q (.bl true) H) : rIsB K "list" [.ref a, .ty "list"] H Q := ⟨_, "list", true, rfl, .base (.lst h), by decide +kernel, q⟩
theorem k_isB_tt {a : Addr} {xs : List V} (h : H a = some (.tup xs)) (q : Q (.bl true) H) : rIsB K "tuple" [.ref a, .ty "tuple"] H Q := ⟨_, "tuple", true, rfl, .base (.tup h), by decide +kernel, q⟩
/-! dicts -/
theorem k_dget {a : Addr} {kvs : List (Key × V)} {k : Key} {v : V} (h : Rd H a (.dK kvs)) (hv : valV kvs k = some v) (q : Q v H) : kDGet Q (.ref a) (kV k) H := ⟨a, v, rfl, .inl ⟨kvs, k, h, rfl, hv.symm⟩, q⟩
theorem k_din {a : Addr} {kvs : List (Key × V)} {k : Key} (h : Rd H a (.dK kvs)) (q : Q (.bl (valV kvs k).isSome) H) : kDIn Q (kV k) (.ref a) H := ⟨a, _, rfl, .inl ⟨kvs, k, h, rfl, rfl⟩, q⟩
theorem k_dnotin {a : Addr} {kvs : List (Key × V)} {k : Key} (h : Rd H a (.dK kvs)) (q : Q (.bl (!(valV kvs k).isSome)) H) : kDNotIn Q (kV k) (.ref a) H := ⟨a, _, rfl, .inl ⟨kvs, k, h, rfl, rfl⟩, q⟩
theorem k_dput {a : Addr} {kvs : List (Key × V)} {k : Key} {v : V} {nx : Hp → Prop} (h : H a = some (.dK kvs)) (hz : kvs.length < sizeLine) (q : ∀ H', But [a] H H' → H' a = some (.dK (putK kvs k v)) → nx H') : kDPut nx v (.ref a) (kV k) H := ⟨a, _, rfl, DPut.k h hz, q _ but_upd upd_same⟩
end
end Rv

namespace Rv
open PySem PySem.Spec PyProof.Rows L2
/-- where the classes of the text stand -/
structure Cs where
  K : PySem.W.Frag
  river : Addr
  book : Addr
  office : Addr
  dueError : Addr
  badRiver : Addr
  badYear : Addr
  noPoint : Addr
  taken : Addr
  noRight : Addr
  notShort : Addr
  tooMuch : Addr
  unlike : Addr
  harm : Addr
  noPond : Addr
  notBelow : Addr
  badText : Addr
/-! ### the text's defs, as their callers see them -/
/-- a function of the module's -/
structure FnIn (P : Program) (w : World) (K : PySem.W.Frag) (mg : Str → Option Value) (base : Heap) (k : Nat) (x : Str) (ps : List Str) (sp : Sp) : Prop where
  ex : ∃ (f : Addr) (fd : FuncData), FnOk P w K mg base (L2.CX P w) k f fd ps sp ∧ mg x = some (.ref f) ∧ PySem.W.keepIn K (.ref f) = true ∧ Binds K fd ps []
/-- a method of the class at C -/
structure MeIn (P : Program) (w : World) (K : PySem.W.Frag) (mg : Str → Option Value) (base : Heap) (k : Nat) (C : Addr) (m : Str) (ps : List Str) (sp : Sp) : Prop where
  ex : ∃ (f : Addr) (fd : FuncData), FnOk P w K mg base (L2.CX P w) k f fd ps sp ∧ Meth K C m f ∧ Binds K fd ps []
  cl : Cls K C
/-- the class x at C, by its __init__ -/
structure MkIn (P : Program) (w : World) (K : PySem.W.Frag) (mg : Str → Option Value) (base : Heap) (k : Nat) (x : Str) (C : Addr) (ps : List Str) (sp : Sp) : Prop where
  ex : ∃ (f : Addr) (fd : FuncData), FnOk P w K mg base (L2.CX P w) k f fd ps sp ∧ Mk K C f ∧ mg x = some (.ref C) ∧ Binds K fd ps []
/-- an error's class x at C -/
structure ErIn (K : PySem.W.Frag) (mg : Str → Option Value) (x : Str) (C : Addr) : Prop where
  g : mg x = some (.ref C)
  x : PySem.W.excIn K C [.type "ValueError", .type "Exception", .type "BaseException", .type "object"] "ValueError.__new__" = true
  k : PySem.W.keepIn K (.ref C) = true
  b : PySem.W.subIn K (.ref C) (.type "BaseException") = some true
  t : PySem.W.typeIn K (.ref C) = some (.type "type")
section
variable {X : Cx} {k : Nat} {x m : Str} {C : Addr} {ps : List Str} {sp : Sp} {W : WX} {p pos apos : Pos} {e o : Expr} {es : List Expr} {ta : TE} {t : TA}
theorem pe_fn (G : FnIn X.prog X.w X.K X.mg X.base k x ps sp) (hr : Room k X.A) (tk : Takes X W) (hg : Gl X x) (ha : PA X (e :: es) t) (hdb : (x == ("__debug__" : Str)) = false := by decide)
    (he : starEach (e :: es) X.env = (false, eval e X.env) :: starEach es X.env := by rfl) (hpl : (backTo pos (starEach es X.env)).any (·.1) = false := by rfl) : PE X (.Call (.Name x p) (e :: es) [] pos) (tFn sp W t) := by
  obtain ⟨f, fd, F, hm, hk, hb⟩ := G.ex
  exact pe_callS F hr hg hm hk hb (fun σ => passAt tk σ) ha hdb he hpl
theorem pe_me {pl : Sem Bool} (G : MeIn X.prog X.w X.K X.mg X.base k C m ps sp) (hr : Room k X.A) (tk : Takes X W) (ho : PE X o ta) (ha : PA X (e :: es) t)
    (hst : starEach (e :: es) X.env = (false, eval e X.env) :: starEach es X.env := by rfl) (hpl : (backTo pos (starEach es X.env)).any (·.1) = false := by rfl)
    (ht : eval (.Call (.Attribute o m apos) (e :: es) [] pos) X.env = (do
      let ov ← eval o X.env
      standAt apos.atName
      let (f, first) ← holding [ov] (getMethod ov m pl)
      callWith pos f first (backTo pos (starEach (e :: es) X.env)) (backToKw pos (keywordEach [] X.env))) := by rfl) : PE X (.Call (.Attribute o m apos) (e :: es) [] pos) (tMethS C m sp W ta t) := by
  obtain ⟨f, fd, F, hm, hb⟩ := G.ex
  refine ⟨fun pins s σ H Q I h => ?_⟩
  refine PySem.W.methodCall_KW (pl := pl) (thn (ho.run pins s σ H _ I h) fun u s1 ⟨x, H1, I1, rx, a, dx, fs, ex, ea, l, q⟩ => ?_) ht
  subst ex
  obtain rfl : u = Value.ref a := rx
  refine getmeth_ok I1 ea G.cl hm l ?_
  refine PySem.W.callWith_K (first := [.ref a]) (h₀ := X.base) I.ok.mod.kin hm.kp (thn (ha.run pos pins s1 σ H1 _ I1 q) fun us s2 ⟨vs, H2, I2, r, q2⟩ => ⟨I2.kIn, ?_⟩) hst hpl
  exact run_fnS (us := .ref a :: us) (vs := .ref a :: vs) F hr hb (passAt tk σ) I2 (.cons rfl r) q2
theorem pe_me0 {pl : Sem Bool} (G : MeIn X.prog X.w X.K X.mg X.base k C m ps sp) (hr : Room k X.A) (tk : Takes X W) (ho : PE X o ta)
    (ht : eval (.Call (.Attribute o m apos) [] [] pos) X.env = (do
      let ov ← eval o X.env
      standAt apos.atName
      let (f, first) ← holding [ov] (getMethod ov m pl)
      callWith pos f first (backTo pos (starEach [] X.env)) (backToKw pos (keywordEach [] X.env))) := by rfl) : PE X (.Call (.Attribute o m apos) [] [] pos) (tMethS C m sp W ta tNil) := by
  obtain ⟨f, fd, F, hm, hb⟩ := G.ex
  refine ⟨fun pins s σ H Q I h => ?_⟩
  refine PySem.W.methodCall_KW (pl := pl) (thn (ho.run pins s σ H _ I h) fun u s1 ⟨x, H1, I1, rx, a, dx, fs, ex, ea, l, q⟩ => ?_) ht
  subst ex
  obtain rfl : u = Value.ref a := rx
  refine getmeth_ok I1 ea G.cl hm l ?_
  exact PySem.W.callWith_K0 (first := [.ref a]) I1.kIn hm.kp (run_fnS (us := [.ref a]) (vs := [.ref a]) F hr hb (passAt tk σ) I1 (.cons rfl .nil) q)
theorem pe_mk (G : MkIn X.prog X.w X.K X.mg X.base k x C ps sp) (hr : Room (k + 1) X.A) (tk : Takes X W) (hg : Gl X x) (ha : PA X (e :: es) t) (hdb : (x == ("__debug__" : Str)) = false := by decide)
    (he : starEach (e :: es) X.env = (false, eval e X.env) :: starEach es X.env := by rfl) (hpl : (backTo pos (starEach es X.env)).any (·.1) = false := by rfl) : PE X (.Call (.Name x p) (e :: es) [] pos) (tMakeS C sp W t) := by
  obtain ⟨f, fd, F, M, hm, hb⟩ := G.ex
  refine ⟨fun pins s σ H Q I h => ?_⟩
  refine wpAny_Call_Name_kw (ld_glob I hg hm ?_ hdb)
  refine PySem.W.callWith_K (h₀ := X.base) I.ok.mod.kin M.kp (thn (ha.run pos pins s σ H _ I h) fun us s1 ⟨vs, H1, I1, r, q⟩ => ⟨I1.kIn, ?_⟩) he hpl
  have hq := q (s1.heap.objs.size + 1) s1.heap.objs.size (I1.hok.fresh (Nat.le_succ _)) (I1.hok.fresh (Nat.le_refl _)) (Nat.ne_of_lt (Nat.lt_succ_self _))
  have I2 := Inv.made (C := C) I1
  have r2 : Vals (V.ref (s1.heap.objs.size + 1) :: vs) (Value.ref (s1.heap.objs.size + 1) :: us) := .cons rfl r
  have hl : (Value.ref (s1.heap.objs.size + 1) :: us).length = ps.length := by
    have e := r2.length
    rw [F.len _ _ _ _ hq] at e
    exact e.symm
  have b := hb _ (Value.ref (s1.heap.objs.size + 1) :: us) I2.kIn (by rw [List.append_nil]; exact hl)
  rw [List.append_nil] at b
  refine wpAny_call (make_map (f := f) I1.kIn M.makes M.init (beq_iff_eq.mp M.fn) (codeAny_mono (F.run _ X.stack _ _ ⟨Value.ref (s1.heap.objs.size + 1) :: us, []⟩ (Value.ref (s1.heap.objs.size + 1) :: us) _ _ (WE W σ) (hr.make C us [])
    (I2.env0.make C us []) b r2 hq) fun r s' hq' => ?_))
  cases r with
  | error e => exact passAt tk σ pins _ _ e s' I2 hq'
  | ok fl =>
    cases fl with
    | ret u =>
      obtain ⟨v, H', I3, rv, ev, q3⟩ := I2.after hq'
      subst ev
      exact ⟨rv, ⟨V.ref (s1.heap.objs.size + 1), H', I3, rfl, q3⟩⟩
    | next => exact False.elim hq'
    | brk => exact False.elim hq'
    | cont => exact False.elim hq'
/-- raise x("..") -/
theorem ps_rz {mm : Str} {j : Nat} {p2 pos2 : Pos} (hc : X.calm = true) (G : ErIn X.K X.mg x C) (tk : Takes X W) (hg : Gl X x) (hdb : (x == ("__debug__" : Str)) = false := by decide) :
    PS X (.Raise (some (.Call (.Name x p) [.Constant (.str mm) j p2] [] pos)) none pos2) (tRaise W C) :=
  ps_raise hc tk (pmk_own PySem.F.excBase_ValueError G.x G.g G.k (raises_own G.b G.t) hg hdb)
end
/-! ### an error that a suite holds -/
def rIsX (K : PySem.W.Frag) (a : Addr) (cls : Value) (d : Option Addr) : List V → Hp → VK → Prop := fun xs H Q => ∃ (D C : Addr) (b : Bool), cls = .ref D ∧ d = none ∧ ExcC K D ∧ xs = [.ref a, .ref C] ∧ PySem.W.kitOne K (.ref D) (.ref C) = some b ∧ Q (.bl b) H
theorem c_isX {X : Cx} {a : Addr} {oe : Obj} {cls : Value} {d : Option Addr} {pn : List (Addr × Obj)} (hz : Zc cls d oe) (hf : ∃ vs, oe.data = .fields vs) : CallR (X.suite a ((a, oe) :: pn)) (.builtin "isinstance") (rIsX X.K a cls d) := by
  intro pins s σ H xs us Q I r h
  obtain ⟨D, C, b, rfl, rfl, hC, rfl, hk, q⟩ := h
  exact call_isE hC hz hf pins s σ H _ us Q I r ⟨.ref C, .ref C, b, rfl, fun u h => h, hk, q⟩
theorem k_isX {K : PySem.W.Frag} {H : Hp} {Q : VK} {a D C : Addr} {b : Bool} (hC : ExcC K D) (hk : PySem.W.kitOne K (.ref D) (.ref C) = some b) (q : Q (.bl b) H) : rIsX K a (.ref D) none [.ref a, .ref C] H Q := ⟨D, C, b, rfl, rfl, hC, rfl, hk, q⟩
/-! ### the errors' classes among each other -/
theorem exm_of {K : PySem.W.Frag} {S : Addr} {cls : Value} {b : Bool} (h1 : PySem.W.subIn K (.ref S) (.type "BaseException") = some true) (h2 : PySem.W.isClsIn K S = true) (h3 : PySem.W.typeIn K (.ref S) = some (.type "type")) (h4 : PySem.W.subIn K cls (.ref S) = some b) :
    PySem.W.exmOne K cls (.ref S) = some b := by
  have e1 : (PySem.W.subIn K (.ref S) (.type "BaseException") == some true) = true := by rw [h1] <;> rfl
  have e2 : ((PySem.W.clsIn K S).isSome && PySem.W.typeIn K (.ref S) == some (.type "type")) = true := by
    have h2' : (PySem.W.clsIn K S).isSome = true := h2
    rw [h2', h3] <;> rfl
  show (if (PySem.W.subIn K (.ref S) (.type "BaseException") == some true) = true then (if ((PySem.W.clsIn K S).isSome && PySem.W.typeIn K (.ref S) == some (.type "type")) = true then PySem.W.subIn K cls (.ref S) else none) else none) = some b
  rw [if_pos e1, if_pos e2]
  exact h4
theorem kit_of2 {K : PySem.W.Frag} {D S : Addr} {b : Bool} (h2 : PySem.W.isClsIn K S = true) (h3 : PySem.W.typeIn K (.ref S) = some (.type "type")) (h4 : PySem.W.subIn K (.ref D) (.ref S) = some b) (h5 : (Value.ref D == Value.ref S) = true → b = true) :
    PySem.W.kitOne K (.ref D) (.ref S) = some b := by
  unfold PySem.W.kitOne
  by_cases e : (Value.ref D == Value.ref S) = true
  · rw [if_pos e, h5 e]
  · rw [if_neg e]
    have e2 : ((PySem.W.clsIn K S).isSome && PySem.W.typeIn K (.ref S) == some (.type "type")) = true := by
      have h2' : (PySem.W.clsIn K S).isSome = true := h2
      rw [h2', h3] <;> rfl
    show (if ((PySem.W.clsIn K S).isSome && PySem.W.typeIn K (.ref S) == some (.type "type")) = true then PySem.W.subIn K (.ref D) (.ref S) else none) = some b
    rw [if_pos e2]
    exact h4
theorem kit_t {K : PySem.W.Frag} {D S : Addr} (h2 : PySem.W.isClsIn K S = true) (h3 : PySem.W.typeIn K (.ref S) = some (.type "type")) (h4 : PySem.W.subIn K (.ref D) (.ref S) = some true) : PySem.W.kitOne K (.ref D) (.ref S) = some true := kit_of2 h2 h3 h4 fun _ => rfl
/-- two classes apart: the one has the other's base above it, or they differ in being under a third -/
theorem kit_f {K : PySem.W.Frag} {D S : Addr} (h2 : PySem.W.isClsIn K S = true) (h3 : PySem.W.typeIn K (.ref S) = some (.type "type")) (h4 : PySem.W.subIn K (.ref D) (.ref S) = some false) (h5 : PySem.W.subIn K (.ref S) (.ref S) = some true) : PySem.W.kitOne K (.ref D) (.ref S) = some false :=
  kit_of2 h2 h3 h4 fun e => by
    have e' : D = S := by simpa using e
    rw [e', h5] at h4
    cases h4
/-! ### a def by its body -/
section
variable {P : Program} {w : World} {K : PySem.W.Frag} {mg : Str → Option Value} {base : Heap}
theorem fn_by {x : Str} {st : Stmt} {f : Addr} {fd : FuncData} {N ps : List Str} {k : Nat} {sp : Sp} {tt : XK → TS} (F : Fun K x x st f fd) (hm : mg x = some (.ref f)) (hb : Binds K fd ps []) (S : FnScope N ps (defScope st))
    (len : ∀ vs H Q E, sp vs H Q E → vs.length = ps.length) (pure : ∀ vs H Q E, sp vs H Q E → tt E { nx := fun _ H' => Q .non H', rt := Q } (start N vs) H)
    (der : ∀ (cdv : Value) (A : Around) (outer : List Env) (s : Shared) (H : Hp) (E : XK), Room k (A.deeper (envOfC x (defScope st) s.heap.objs.size f cdv)) → Takes (cxOf (L2.CX P w) P w K mg base N x (defScope st) f cdv A outer s H E) (wF E) → PassesOwn (model P w) (cxOf (L2.CX P w) P w K mg base N x (defScope st) f cdv A outer s H E).A (cxOf (L2.CX P w) P w K mg base N x (defScope st) f cdv A outer s H E).env (cxOf (L2.CX P w) P w K mg base N x (defScope st) f cdv A outer s H E).xe → PSs (cxOf (L2.CX P w) P w K mg base N x (defScope st) f cdv A outer s H E) (defBody st) (tt E)) :
    FnIn P w K mg base (k + 1) x ps sp :=
  ⟨⟨f, fd, F.okX S len (fun cdv A outer s H vs Q E hr h => ⟨tt E, der cdv A outer s H E hr (takes_of rfl rfl rfl rfl) (passes_of rfl), pure vs H Q E h⟩), hm, F.kp, hb⟩⟩
theorem me_by {m qual : Str} {C : Addr} {st : Stmt} {f : Addr} {fd : FuncData} {N ps : List Str} {k : Nat} {sp : Sp} {tt : XK → TS} (F : Fun K m qual st f fd) (hM : Meth K C m f) (hC : Cls K C) (hb : Binds K fd ps []) (S : FnScope N ps (defScope st))
    (len : ∀ vs H Q E, sp vs H Q E → vs.length = ps.length) (pure : ∀ vs H Q E, sp vs H Q E → tt E { nx := fun _ H' => Q .non H', rt := Q } (start N vs) H)
    (der : ∀ (cdv : Value) (A : Around) (outer : List Env) (s : Shared) (H : Hp) (E : XK), Room k (A.deeper (envOfC qual (defScope st) s.heap.objs.size f cdv)) → Takes (cxOf (L2.CX P w) P w K mg base N qual (defScope st) f cdv A outer s H E) (wF E) → PassesOwn (model P w) (cxOf (L2.CX P w) P w K mg base N qual (defScope st) f cdv A outer s H E).A (cxOf (L2.CX P w) P w K mg base N qual (defScope st) f cdv A outer s H E).env (cxOf (L2.CX P w) P w K mg base N qual (defScope st) f cdv A outer s H E).xe → PSs (cxOf (L2.CX P w) P w K mg base N qual (defScope st) f cdv A outer s H E) (defBody st) (tt E)) :
    MeIn P w K mg base (k + 1) C m ps sp :=
  ⟨⟨f, fd, F.okX S len (fun cdv A outer s H vs Q E hr h => ⟨tt E, der cdv A outer s H E hr (takes_of rfl rfl rfl rfl) (passes_of rfl), pure vs H Q E h⟩), hM, hb⟩, hC⟩
theorem mk_by {x qual : Str} {C : Addr} {st : Stmt} {f : Addr} {fd : FuncData} {N ps : List Str} {k : Nat} {sp : Sp} {tt : XK → TS} (F : Fun K "__init__" qual st f fd) (hM : Mk K C f) (hm : mg x = some (.ref C)) (hb : Binds K fd ps []) (S : FnScope N ps (defScope st))
    (len : ∀ vs H Q E, sp vs H Q E → vs.length = ps.length) (pure : ∀ vs H Q E, sp vs H Q E → tt E { nx := fun _ H' => Q .non H', rt := Q } (start N vs) H)
    (der : ∀ (cdv : Value) (A : Around) (outer : List Env) (s : Shared) (H : Hp) (E : XK), Room k (A.deeper (envOfC qual (defScope st) s.heap.objs.size f cdv)) → Takes (cxOf (L2.CX P w) P w K mg base N qual (defScope st) f cdv A outer s H E) (wF E) → PassesOwn (model P w) (cxOf (L2.CX P w) P w K mg base N qual (defScope st) f cdv A outer s H E).A (cxOf (L2.CX P w) P w K mg base N qual (defScope st) f cdv A outer s H E).env (cxOf (L2.CX P w) P w K mg base N qual (defScope st) f cdv A outer s H E).xe → PSs (cxOf (L2.CX P w) P w K mg base N qual (defScope st) f cdv A outer s H E) (defBody st) (tt E)) :
    MkIn P w K mg base (k + 1) x C ps sp :=
  ⟨⟨f, fd, F.okX S len (fun cdv A outer s H vs Q E hr h => ⟨tt E, der cdv A outer s H E hr (takes_of rfl rfl rfl rfl) (passes_of rfl), pure vs H Q E h⟩), hM, hm, hb⟩⟩
/-- the law's own def -/
theorem ok_by {x : Str} {st : Stmt} {f : Addr} {fd : FuncData} {N ps : List Str} {k : Nat} {sp : Sp} {tt : XK → TS} (F : Fun K x x st f fd) (S : FnScope N ps (defScope st))
    (len : ∀ vs H Q E, sp vs H Q E → vs.length = ps.length) (pure : ∀ vs H Q E, sp vs H Q E → tt E { nx := fun _ H' => Q .non H', rt := Q } (start N vs) H)
    (der : ∀ (cdv : Value) (A : Around) (outer : List Env) (s : Shared) (H : Hp) (E : XK), Room k (A.deeper (envOfC x (defScope st) s.heap.objs.size f cdv)) → Takes (cxOf (L2.CX P w) P w K mg base N x (defScope st) f cdv A outer s H E) (wF E) → PassesOwn (model P w) (cxOf (L2.CX P w) P w K mg base N x (defScope st) f cdv A outer s H E).A (cxOf (L2.CX P w) P w K mg base N x (defScope st) f cdv A outer s H E).env (cxOf (L2.CX P w) P w K mg base N x (defScope st) f cdv A outer s H E).xe → PSs (cxOf (L2.CX P w) P w K mg base N x (defScope st) f cdv A outer s H E) (defBody st) (tt E)) :
    FnOk P w K mg base (L2.CX P w) (k + 1) f fd ps sp := F.okX S len (fun cdv A outer s H vs Q E hr h => ⟨tt E, der cdv A outer s H E hr (takes_of rfl rfl rfl rfl) (passes_of rfl), pure vs H Q E h⟩)
end
/-! ### fields -/
theorem lk_here {k : Str} {v : V} {r : List (Str × V)} : List.lookup k ((k, v) :: r) = some v := by
  have e : (k == k) = true := beq_self_eq_true k
  simp only [List.lookup, e]
theorem lk_past {k g : Str} {v : V} {r : List (Str × V)} (h : (k == g) = false) : List.lookup k ((g, v) :: r) = List.lookup k r := by
  simp only [List.lookup, h]
theorem put_here {f : Str} {v x : V} {r : List (Str × V)} : putF f v ((f, x) :: r) = (f, v) :: r := if_pos rfl
theorem put_past {f g : Str} {v x : V} {r : List (Str × V)} (h : ¬ g = f) : putF f v ((g, x) :: r) = (g, x) :: putF f v r := if_neg h
theorem put_nil {f : Str} {v : V} : putF f v [] = [(f, v)] := rfl
end Rv

namespace Rv
open PySem L2
theorem pe_gI {X : Cx} {x : Str} {n : Int} {p : Pos} (hg : Gl X x) (hm : ∃ t, X.mg x = some (.int n t)) (hd : (x == ("__debug__" : Str)) = false := by decide) : PE X (.Name x p) (tC (.int n)) := by
  obtain ⟨t, h⟩ := hm
  exact pe_glob hg h ⟨t, rfl⟩ hd
theorem pe_gS {X : Cx} {x z : Str} {p : Pos} (hg : Gl X x) (hm : ∃ t, X.mg x = some (.str z t)) (hd : (x == ("__debug__" : Str)) = false := by decide) : PE X (.Name x p) (tC (.str z)) := by
  obtain ⟨t, h⟩ := hm
  exact pe_glob hg h ⟨t, rfl⟩ hd
/-! ### the tries -/
def tTryAs (K : PySem.W.Frag) (C : Addr) (i : Nat) (tb : WX → TS) (ts : Addr → Value → Option Addr → TS) (Wout : WX) : TS := fun D σ H => tb (wAs K (.ref C) i ts Wout D) D σ H
def tTryOnly (K : PySem.W.Frag) (C : Addr) (tb : WX → TS) (ts : Addr → Value → Option Addr → TS) (Wout : WX) : TS := fun D σ H => tb (wOnly K (.ref C) ts Wout D) D σ H
/-! ### what is walked -/
def kFor (g : TG) (tb : TS) (D : Ends) (σ : L2.St) : It → Hp → Prop := fun J H1 => ∃ W : Nat → Nat → L2.St → Hp → Prop, (∃ m, W 0 m σ H1) ∧ ∀ i m σ H, W i m σ H →
  (J.stop i H ∧ D.nx σ H) ∨ (J.go i H ∧ ∃ N : L2.St → Hp → Prop, (∀ σ' H', N σ' H' → ∃ m', m' < m ∧ W (i + 1) m' σ' H') ∧ ∀ x H', J.yld i H x H' → g x σ H' fun σ2 H2 => tb { D with nx := N, ct := N, bk := D.nx } σ2 H2)
def kLc (g : TG) (tt : TT) (te : TE) (vs : List Nat) (σ : L2.St) (Q : VK) : It → Hp → Prop := fun J H1 => ∀ D, H1 D = none → ∃ W : Nat → Nat → Hp → Prop, (∃ m, W 0 m (upd H1 D (.lst []))) ∧ ∀ i m H, W i m H →
  (J.stop i H ∧ Q (.ref D) H) ∨ (J.go i H ∧ ∃ Nx : Hp → Prop, (∀ H', Nx H' → ∃ m', m' < m ∧ W (i + 1) m' H') ∧ ∀ x H', J.yld i H x H' → g x (wipe σ vs) H' fun σ2 H2 => wipe σ2 vs = wipe σ vs ∧ tt σ2 H2 fun b H3 =>
    if b = true then te σ2 H3 fun y H4 => ∃ acc, H4 D = some (.lst acc) ∧ acc.length < sizeLine ∧ Nx (upd H4 D (.lst (acc ++ [y]))) else Nx H3)
def kItl (K : PySem.W.Frag) (R : It → Hp → Prop) : VK := fun x H1 => ∃ a, x = .ref a ∧ (∃ xs, SqL K H1 a xs) ∧ R (Itl K a) H1
def kRng1 (R : It → Hp → Prop) : List V → Hp → Prop := fun vs H1 => ∃ j : Int, vs = [.int j] ∧ -(2 ^ 62) ≤ j ∧ j < 2 ^ 62 ∧ R (Itr 0 j.toNat) H1
def kRng2 (R : It → Hp → Prop) : List V → Hp → Prop := fun vs H1 => ∃ i j : Int, vs = [.int i, .int j] ∧ (-(2 ^ 62) ≤ i ∧ i < 2 ^ 62 ∧ -(2 ^ 62) ≤ j ∧ j < 2 ^ 62) ∧ R (Itr i (j - i).toNat) H1
def kZip (K : PySem.W.Frag) (R : It → Hp → Prop) : List V → Hp → Prop := fun vs H1 => ∃ a b xs ys, vs = [.ref a, .ref b] ∧ SqL K H1 a xs ∧ SqL K H1 b ys ∧ R (Itz K a b) H1
def kIts (R : It → Hp → Prop) : VK := fun v H1 => ∃ x, v = .str x ∧ R (Its x) H1
def kItk (R : It → Hp → Prop) : VK := fun x H1 => ∃ d o, x = .ref d ∧ ((∃ kvs, H1 d = some (.frz o (.dK kvs)) ∧ R (Itk d o kvs) H1) ∨ ∃ kvs, H1 d = some (.frz o (.dT kvs)) ∧ R (Itkt d o kvs) H1)
def kRgl (Q : VK) : Int → Int → Hp → Prop := fun a b H1 => RgOk a b ∧ ∀ q, H1 q = none → Q (.ref q) (upd H1 q (.lst (rgV a b)))
section
variable {K : PySem.W.Frag} {σ : L2.St} {H : Hp} {Q : VK} {D : Ends} {tl te : TE} {ta : TA} {tt : TT} {tb : TS} {g : TG} {R : It → Hp → Prop} {vs : List Nat} {wi : TI}
theorem r_for (h : wi σ H (kFor g tb D σ)) : tFor wi g tb D σ H := h
theorem r_lc (h : wi σ H (kLc g tt te vs σ Q)) : tLc wi g tt te vs σ H Q := h
theorem r_iList (h : tl σ H (kItl K R)) : iList K tl σ H R := h
theorem r_iRng1 (h : ta σ H (kRng1 R)) : iRng1 ta σ H R := h
theorem r_iRng2 (h : ta σ H (kRng2 R)) : iRng2 ta σ H R := h
theorem r_iZip (h : ta σ H (kZip K R)) : iZip K ta σ H R := h
theorem r_iStr (h : te σ H (kIts R)) : iStr te σ H R := h
theorem r_iKeys (h : te σ H (kItk R)) : iKeys te σ H R := h
theorem r_lstRg {tr : St → Hp → (Int → Int → Hp → Prop) → Prop} (h : tr σ H (kRgl Q)) : tLstRg tr σ H Q := h
theorem k_itl {a : Addr} {xs : List V} (h : SqL K H a xs) (q : R (Itl K a) H) : kItl K R (.ref a) H := ⟨a, rfl, ⟨xs, h⟩, q⟩
theorem k_rng1 {j : Int} (h : -(2 ^ 62) ≤ j ∧ j < 2 ^ 62) (q : R (Itr 0 j.toNat) H) : kRng1 R [.int j] H := ⟨j, rfl, h.1, h.2, q⟩
theorem k_rng2 {i j : Int} (h : -(2 ^ 62) ≤ i ∧ i < 2 ^ 62 ∧ -(2 ^ 62) ≤ j ∧ j < 2 ^ 62) (q : R (Itr i (j - i).toNat) H) : kRng2 R [.int i, .int j] H := ⟨i, j, rfl, h, q⟩
theorem k_zip {a b : Addr} {xs ys : List V} (h1 : SqL K H a xs) (h2 : SqL K H b ys) (q : R (Itz K a b) H) : kZip K R [.ref a, .ref b] H := ⟨a, b, xs, ys, rfl, h1, h2, q⟩
theorem k_its {x : Str} (q : R (Its x) H) : kIts R (.str x) H := ⟨x, rfl, q⟩
theorem k_itk {d : Addr} {o : Obj} {kvs : List (Key × V)} (h : H d = some (.frz o (.dK kvs))) (q : R (Itk d o kvs) H) : kItk R (.ref d) H := ⟨d, o, rfl, .inl ⟨kvs, h, q⟩⟩
/-! ### loops by an invariant over (turn, slots, heap) -/
theorem k_forL {a : Addr} {xs : List V} {j : Nat} (Pv : Nat → L2.St → Hp → Prop) (h0 : Pv 0 σ H) (hl : ∀ i σ H, i ≤ xs.length → Pv i σ H → SqL K H a xs)
    (turn : ∀ i x σ' H', xs[i]? = some x → Pv i σ' H' → tb { D with nx := Pv (i + 1), ct := Pv (i + 1), bk := D.nx } (σ'.set j (some x)) H') (done : ∀ σ' H', Pv xs.length σ' H' → D.nx σ' H') : kFor (gName j) tb D σ (Itl K a) H :=
  for_it walk_list Pv h0 hl (fun i x σ' H1 H2 hi p y => by
    obtain ⟨e, y⟩ := y
    subst e
    exact turn i x σ' _ y p) done
/-- over a list whose items go into several names -/
theorem k_forLg {a : Addr} {xs : List V} (Pv : Nat → L2.St → Hp → Prop) (h0 : Pv 0 σ H) (hl : ∀ i σ H, i ≤ xs.length → Pv i σ H → SqL K H a xs)
    (turn : ∀ i x σ' H', xs[i]? = some x → Pv i σ' H' → g x σ' H' fun σ2 H2 => tb { D with nx := Pv (i + 1), ct := Pv (i + 1), bk := D.nx } σ2 H2) (done : ∀ σ' H', Pv xs.length σ' H' → D.nx σ' H') : kFor g tb D σ (Itl K a) H :=
  for_it walk_list Pv h0 hl (fun i x σ' H1 H2 hi p y => by
    obtain ⟨e, y⟩ := y
    subst e
    exact turn i x σ' _ y p) done
theorem k_forR {lo : Int} {n j : Nat} (Pv : Nat → L2.St → Hp → Prop) (h0 : Pv 0 σ H)
    (turn : ∀ (i : Nat) σ' H', i < n → Pv i σ' H' → tb { D with nx := Pv (i + 1), ct := Pv (i + 1), bk := D.nx } (σ'.set j (some (.int (lo + (i : Int))))) H') (done : ∀ σ' H', Pv n σ' H' → D.nx σ' H') : kFor (gName j) tb D σ (Itr lo n) H :=
  for_it walk_range Pv h0 (fun _ _ _ _ _ => trivial) (fun i x σ' H1 H2 hi p y => by
    obtain ⟨e, y⟩ := y
    subst e
    subst y
    exact turn i σ' _ hi p) done
theorem k_forS {z : Str} {j : Nat} (Pv : Nat → L2.St → Hp → Prop) (h0 : Pv 0 σ H)
    (turn : ∀ (i : Nat) c σ' H', z.cps[i]? = some c → Pv i σ' H' → tb { D with nx := Pv (i + 1), ct := Pv (i + 1), bk := D.nx } (σ'.set j (some (.str ⟨#[c]⟩))) H') (done : ∀ σ' H', Pv z.cps.size σ' H' → D.nx σ' H') : kFor (gName j) tb D σ (Its z) H :=
  for_it walk_str Pv h0 (fun _ _ _ _ _ => trivial) (fun i x σ' H1 H2 hi p y => by
    obtain ⟨e, c, hc, y⟩ := y
    subst e
    subst y
    exact turn i c σ' _ hc p) done
theorem k_forK {d : Addr} {o : Obj} {kvs : List (Key × V)} {j : Nat} (Pv : Nat → L2.St → Hp → Prop) (h0 : Pv 0 σ H) (hl : ∀ i σ H, i ≤ kvs.length → Pv i σ H → H d = some (.frz o (.dK kvs)))
    (turn : ∀ (i : Nat) k v σ' H', kvs[i]? = some (k, v) → Pv i σ' H' → tb { D with nx := Pv (i + 1), ct := Pv (i + 1), bk := D.nx } (σ'.set j (some (kV k))) H') (done : ∀ σ' H', Pv kvs.length σ' H' → D.nx σ' H') : kFor (gName j) tb D σ (Itk d o kvs) H :=
  for_it walk_keys Pv h0 hl (fun i x σ' H1 H2 hi p y => by
    obtain ⟨e, k, v, hk, y⟩ := y
    subst e
    subst y
    exact turn i k v σ' _ hk p) done
/-- a pair's target: two names -/
theorem g_two {i j T : Nat} {x y : V} {N : L2.St → Hp → Prop} (h : H T = some (.tup [x, y])) (q : N ((σ.set i (some x)).set j (some y)) H) : gTup K 2 (gCons (gName i) (gCons (gName j) gNil)) (.ref T) σ H N :=
  ⟨T, [x, y], rfl, SqT.of h, rfl, x, [y], rfl, y, [], rfl, rfl, q⟩
/-- for x, y in zip(..): the pair at T is new -/
theorem k_forZ {a b : Addr} {xs ys : List V} {i1 i2 n : Nat} (hn : n = min xs.length ys.length) (Pv : Nat → L2.St → Hp → Prop) (h0 : Pv 0 σ H) (hl : ∀ i σ H, i ≤ n → Pv i σ H → SqL K H a xs ∧ SqL K H b ys)
    (turn : ∀ (i : Nat) x y σ' H' H2, xs[i]? = some x → ys[i]? = some y → Pv i σ' H' → Ext H' H2 → tb { D with nx := Pv (i + 1), ct := Pv (i + 1), bk := D.nx } ((σ'.set i1 (some x)).set i2 (some y)) H2) (done : ∀ σ' H', Pv n σ' H' → D.nx σ' H') :
    kFor (gTup K 2 (gCons (gName i1) (gCons (gName i2) gNil))) tb D σ (Itz K a b) H :=
  for_it (walk_zip hn) Pv h0 hl (fun i x σ' H1 H2 hi p y => by
    obtain ⟨T, u, v, e, hT, eH, hu, hv⟩ := y
    subst e
    subst eH
    exact g_two upd_same (turn i u v σ' _ _ hu hv p (ext_new hT))) done
theorem r_while {c : TT} (Pv : Nat → L2.St → Hp → Prop) {m0 : Nat} (h0 : Pv m0 σ H)
    (turn : ∀ m σ' H', Pv m σ' H' → c σ' H' (kIf tb (fun D σ H => D.bk σ H) { D with nx := fun σ2 H2 => ∃ m', m' < m ∧ Pv m' σ2 H2, ct := fun σ2 H2 => ∃ m', m' < m ∧ Pv m' σ2 H2, bk := D.nx } σ')) 
    (mono : ∀ σ H (Q Q' : Bool → Hp → Prop), (∀ b H1, Q b H1 → Q' b H1) → c σ H Q → c σ H Q') : tWhile c tb D σ H := by
  refine ⟨Pv, ⟨m0, h0⟩, fun m σ' H' p => ?_⟩
  refine mono σ' H' _ _ (fun b H1 q => ?_) (turn m σ' H' p)
  cases b with
  | true => exact ⟨_, fun σ2 H2 z => z, q⟩
  | false => exact q
/-! ### comprehensions -/
/-- every tuple stands -/
structure TupE (H H' : Hp) : Prop where
  g : ∀ a xs, H a = some (.tup xs) → H' a = some (.tup xs)
theorem Ext.tup {H H' : Hp} (e : Ext H H') : TupE H H' := ⟨fun a xs h => e.g a _ h⟩
theorem Ac.tup {H H' : Hp} (e : Ac H H') : TupE H H' := ⟨fun a xs h => e.g a _ h⟩
theorem But.tupL {H H' : Hp} {D : Addr} {acc : List V} (e : But [D] H H') (h : H D = some (.lst acc)) : TupE H H' := ⟨fun a xs ha => e.g a _ ha (fun z => by
  have z' : a = D := by simpa using z
  rw [z', h] at ha
  cases ha)⟩
/-- the general rule: as, the items by their values inj; kept where p; the element's value v stands for G x by R -/
theorem lc_gen {α β : Type} {J : It} {Gd : Hp → Prop} (as : List α) (inj : α → V) (p : α → Bool) (G : α → β) (Rr : Hp → V → β → Prop) {j : Nat}
    (w : Walk J as.length Gd (YAt (as.map inj))) (hG : ∀ H', Ac H H' → Gd H') (mono : ∀ H1 H2 v b, TupE H1 H2 → Rr H1 v b → Rr H2 v b) (hw : ∀ x, wipe ((wipe σ vs).set j (some x)) vs = wipe σ vs) (hlen : as.length ≤ 100000)
    (turn : ∀ x ∈ as, ∀ H1, Ac H H1 → ∀ QB : Bool → Hp → Prop, (∀ H2, Ext H1 H2 → QB (p x) H2) → tt ((wipe σ vs).set j (some (inj x))) H1 QB)
    (elt : ∀ x ∈ as, p x = true → ∀ H1, Ac H H1 → ∀ Q1 : VK, (∀ v H2, Ext H1 H2 → Rr H2 v (G x) → Q1 v H2) → te ((wipe σ vs).set j (some (inj x))) H1 Q1)
    (fin : ∀ D ws H', H D = none → Ext H H' → H' D = some (.lst ws) → Paired (Rr H') ws ((as.filter p).map G) → Q (.ref D) H') : kLc (gName j) tt te vs σ Q J H := by
  intro D hD
  refine lc_it w (fun i H' => Ac H H' ∧ ∃ ws, H' D = some (.lst ws) ∧ ws.length ≤ i ∧ Paired (Rr H') ws (((as.take i).filter p).map G)) ?_ (fun i H' _ q => hG H' q.1) ?_ ?_
  · refine ⟨(ext_new hD).ac, [], upd_same, Nat.le_refl _, ?_⟩
    rw [List.take_zero]
    exact .nil
  · rintro i x H1 H2 hi ⟨ac, ws, hws, hl, pr⟩ ⟨e, hx⟩
    subst e
    rw [List.getElem?_map] at hx
    have hi' : as[i]? = some as[i] := by simp [hi]
    rw [hi'] at hx
    have ex : inj as[i] = x := Option.some.inj hx
    subst ex
    have hm : as[i] ∈ as := List.getElem_mem hi
    refine ⟨hw _, turn _ hm H2 ac _ fun H3 e3 => ?_⟩
    have et : as.take (i + 1) = as.take i ++ [as[i]] := by rw [List.take_succ_eq_append_getElem hi]
    by_cases hp : p as[i] = true
    · rw [if_pos hp]
      refine elt _ hm hp H3 (ac.step e3) _ fun v H4 e4 hv => ⟨ws, e4.g _ _ (e3.g _ _ hws), sz_lt (by omega), ((ac.step e3).step e4).but but_upd (frs_cons hD frs_nil), ws ++ [v], upd_same, by rw [List.length_append]; show ws.length + 1 ≤ i + 1; omega, ?_⟩
      have tu : TupE H4 (upd H4 D (.lst (ws ++ [v]))) := But.tupL but_upd (e4.g _ _ (e3.g _ _ hws))
      rw [et, List.filter_append, List.map_append, List.filter_cons, if_pos hp]
      exact Paired.snoc (Paired.mono (fun a b h => mono _ _ a b tu (mono _ _ a b e4.tup (mono _ _ a b e3.tup h))) pr) (mono _ _ _ _ tu hv)
    · rw [if_neg hp]
      refine ⟨ac.step e3, ws, e3.g _ _ hws, by omega, ?_⟩
      rw [et, List.filter_append, List.map_append, List.filter_cons, if_neg hp]
      show Paired _ _ (_ ++ [])
      rw [List.append_nil]
      exact Paired.mono (fun a b h => mono _ _ a b e3.tup h) pr
  · rintro H' ⟨ac, ws, hws, _, pr⟩
    rw [List.take_length] at pr
    exact fin D ws H' hD ac.ext hws pr
theorem walk_rangeA {lo : Int} {n : Nat} : Walk (Itr lo n) (List.range n).length (fun _ => True) (YAt ((List.range n).map fun (i : Nat) => V.int (lo + (i : Int)))) := by
  rw [List.length_range]
  refine Walk.mono walk_range (fun _ h => h) fun i H x H' hi _ y => ?_
  obtain ⟨e, y⟩ := y
  refine ⟨e, ?_⟩
  subst y
  rw [List.getElem?_map, List.getElem?_range hi]
  rfl
theorem walk_listA {α : Type} {a : Addr} {as : List α} {inj : α → V} : Walk (Itl K a) as.length (fun H => SqL K H a (as.map inj)) (YAt (as.map inj)) := by
  have h := walk_list (K := K) (a := a) (xs := as.map inj)
  rw [List.length_map] at h
  exact h
theorem paired_eq {α β : Type} {f : β → α} : ∀ {xs : List α} {ys : List β}, Paired (fun a b => a = f b) xs ys → xs = ys.map f
  | _, _, .nil => rfl
  | _, _, .cons h t => by
    rw [h, paired_eq t]
    rfl
/-- a list's comprehension, the elements values -/
theorem k_lcL {α : Type} (as : List α) (inj : α → V) (p : α → Bool) (G : α → V) {a : Addr} {j : Nat} (hs : SqL K H a (as.map inj)) (hw : ∀ x, wipe ((wipe σ vs).set j (some x)) vs = wipe σ vs) (hlen : as.length ≤ 100000)
    (turn : ∀ x ∈ as, ∀ H1, Ac H H1 → ∀ QB : Bool → Hp → Prop, (∀ H2, Ext H1 H2 → QB (p x) H2) → tt ((wipe σ vs).set j (some (inj x))) H1 QB)
    (elt : ∀ x ∈ as, p x = true → ∀ H1, Ac H H1 → ∀ Q1 : VK, (∀ H2, Ext H1 H2 → Q1 (G x) H2) → te ((wipe σ vs).set j (some (inj x))) H1 Q1)
    (fin : ∀ D H', H D = none → Ext H H' → H' D = some (.lst ((as.filter p).map G)) → Q (.ref D) H') : kLc (gName j) tt te vs σ Q (Itl K a) H :=
  lc_gen as inj p G (fun _ v b => v = b) walk_listA (fun H' e => e.sq hs) (fun _ _ _ _ _ h => h) hw hlen turn (fun x hx hp H1 e Q1 q => elt x hx hp H1 e Q1 fun H2 e2 => q _ H2 e2 rfl)
    (fun D ws H' hD e hws pr => fin D H' hD e (by rw [hws, paired_eq (f := fun v => v) pr, List.map_id']))
theorem k_lcR {lo : Int} {n : Nat} (p : Nat → Bool) (G : Nat → V) {j : Nat} (hw : ∀ x, wipe ((wipe σ vs).set j (some x)) vs = wipe σ vs) (hlen : n ≤ 100000)
    (turn : ∀ (i : Nat), i < n → ∀ H1, Ac H H1 → ∀ QB : Bool → Hp → Prop, (∀ H2, Ext H1 H2 → QB (p i) H2) → tt ((wipe σ vs).set j (some (.int (lo + (i : Int))))) H1 QB)
    (elt : ∀ (i : Nat), i < n → p i = true → ∀ H1, Ac H H1 → ∀ Q1 : VK, (∀ H2, Ext H1 H2 → Q1 (G i) H2) → te ((wipe σ vs).set j (some (.int (lo + (i : Int))))) H1 Q1)
    (fin : ∀ D H', H D = none → Ext H H' → H' D = some (.lst (((List.range n).filter p).map G)) → Q (.ref D) H') : kLc (gName j) tt te vs σ Q (Itr lo n) H :=
  lc_gen (List.range n) (fun i => V.int (lo + (i : Int))) p G (fun _ v b => v = b) walk_rangeA (fun _ _ => trivial) (fun _ _ _ _ _ h => h) hw (by rw [List.length_range]; exact hlen) (fun x hx => turn x (List.mem_range.mp hx))
    (fun x hx hp H1 e Q1 q => elt x (List.mem_range.mp hx) hp H1 e Q1 fun H2 e2 => q _ H2 e2 rfl)
    (fun D ws H' hD e hws pr => fin D H' hD e (by rw [hws, paired_eq (f := fun v => v) pr, List.map_id']))
/-- .. the elements by a relation that leans on tuples alone -/
theorem k_lcLr {α β : Type} (as : List α) (inj : α → V) (p : α → Bool) (G : α → β) (Rr : Hp → V → β → Prop) {a : Addr} {j : Nat} (hs : SqL K H a (as.map inj)) (mono : ∀ H1 H2 v b, TupE H1 H2 → Rr H1 v b → Rr H2 v b) (hw : ∀ x, wipe ((wipe σ vs).set j (some x)) vs = wipe σ vs) (hlen : as.length ≤ 100000)
    (turn : ∀ x ∈ as, ∀ H1, Ac H H1 → ∀ QB : Bool → Hp → Prop, (∀ H2, Ext H1 H2 → QB (p x) H2) → tt ((wipe σ vs).set j (some (inj x))) H1 QB)
    (elt : ∀ x ∈ as, p x = true → ∀ H1, Ac H H1 → ∀ Q1 : VK, (∀ v H2, Ext H1 H2 → Rr H2 v (G x) → Q1 v H2) → te ((wipe σ vs).set j (some (inj x))) H1 Q1)
    (fin : ∀ D ws H', H D = none → Ext H H' → H' D = some (.lst ws) → Paired (Rr H') ws ((as.filter p).map G) → Q (.ref D) H') : kLc (gName j) tt te vs σ Q (Itl K a) H :=
  lc_gen as inj p G Rr walk_listA (fun H' e => e.sq hs) mono hw hlen turn elt fin
/-- any target: by the place -/
theorem lc_genG {β : Type} {J : It} {n : Nat} {Gd : Hp → Prop} {Y : Nat → Hp → V → Hp → Prop} (w : Walk J n Gd Y) (p : Nat → Bool) (G : Nat → β) (Rr : Hp → V → β → Prop) (hG : ∀ H', Ac H H' → Gd H') (mono : ∀ H1 H2 v b, TupE H1 H2 → Rr H1 v b → Rr H2 v b) (hlen : n ≤ 100000)
    (turn : ∀ i x H1 H2, i < n → Ac H H1 → Y i H1 x H2 → ∃ σ2 H3, Ext H1 H3 ∧ wipe σ2 vs = wipe σ vs ∧ (∀ N : L2.St → Hp → Prop, N σ2 H3 → g x (wipe σ vs) H2 N) ∧ (∀ QB : Bool → Hp → Prop, (∀ H4, Ext H3 H4 → QB (p i) H4) → tt σ2 H3 QB) ∧
      (p i = true → ∀ H4, Ext H3 H4 → ∀ Q1 : VK, (∀ v H5, Ext H4 H5 → Rr H5 v (G i) → Q1 v H5) → te σ2 H4 Q1))
    (fin : ∀ D ws H', H D = none → Ext H H' → H' D = some (.lst ws) → Paired (Rr H') ws (((List.range n).filter p).map G) → Q (.ref D) H') : kLc g tt te vs σ Q J H := by
  intro D hD
  refine lc_it w (fun i H' => Ac H H' ∧ ∃ ws, H' D = some (.lst ws) ∧ ws.length ≤ i ∧ Paired (Rr H') ws (((List.range i).filter p).map G)) ?_ (fun i H' _ q => hG H' q.1) ?_ ?_
  · exact ⟨(ext_new hD).ac, [], upd_same, Nat.le_refl _, .nil⟩
  · rintro i x H1 H2 hi ⟨ac, ws, hws, hl, pr⟩ y
    obtain ⟨σ2, H3, e3, hw, gN, ht, he⟩ := turn i x H1 H2 hi ac y
    refine gN _ ⟨hw, ht _ fun H4 e4 => ?_⟩
    have ac4 := (ac.step e3).step e4
    have h4 := e4.g _ _ (e3.g _ _ hws)
    by_cases hp : p i = true
    · rw [if_pos hp]
      refine he hp H4 e4 _ fun v H5 e5 hv => ⟨ws, e5.g _ _ h4, sz_lt (by omega), (ac4.step e5).but but_upd (frs_cons hD frs_nil), ws ++ [v], upd_same, by rw [List.length_append]; show ws.length + 1 ≤ i + 1; omega, ?_⟩
      have tu : TupE H5 (upd H5 D (.lst (ws ++ [v]))) := But.tupL but_upd (e5.g _ _ h4)
      rw [List.range_succ, List.filter_append, List.map_append, List.filter_cons, if_pos hp]
      exact Paired.snoc (Paired.mono (fun a b h => mono _ _ a b tu (mono _ _ a b e5.tup (mono _ _ a b e4.tup (mono _ _ a b e3.tup h)))) pr) (mono _ _ _ _ tu hv)
    · rw [if_neg hp]
      refine ⟨ac4, ws, h4, by omega, ?_⟩
      rw [List.range_succ, List.filter_append, List.map_append, List.filter_cons, if_neg hp]
      show Paired _ _ (_ ++ [])
      rw [List.append_nil]
      exact Paired.mono (fun a b h => mono _ _ a b e4.tup (mono _ _ a b e3.tup h)) pr
  · rintro H' ⟨ac, ws, hws, _, pr⟩
    exact fin D ws H' hD ac.ext hws pr
/-- [e for x, y in zip(..)] -/
theorem k_lcZr {β : Type} {a b : Addr} {xs ys : List V} {n i1 i2 : Nat} (h1 : SqL K H a xs) (h2 : SqL K H b ys) (l1 : xs.length = n) (l2 : ys.length = n) (G : Nat → β) (Rr : Hp → V → β → Prop) (mono : ∀ H1 H2 v b, TupE H1 H2 → Rr H1 v b → Rr H2 v b) (hw : ∀ x y, wipe (((wipe σ vs).set i1 (some x)).set i2 (some y)) vs = wipe σ vs) (hlen : n ≤ 100000)
    (elt : ∀ i x y, xs[i]? = some x → ys[i]? = some y → ∀ H1, Ac H H1 → ∀ Q1 : VK, (∀ v H2, Ext H1 H2 → Rr H2 v (G i) → Q1 v H2) → te (((wipe σ vs).set i1 (some x)).set i2 (some y)) H1 Q1)
    (fin : ∀ D ws H', H D = none → Ext H H' → H' D = some (.lst ws) → Paired (Rr H') ws ((List.range n).map G) → Q (.ref D) H') : kLc (gTup K 2 (gCons (gName i1) (gCons (gName i2) gNil))) tYes te vs σ Q (Itz K a b) H := by
  refine lc_genG (walk_zip (n := n) (by rw [l1, l2]; omega)) (fun _ => true) G Rr (fun H' e => ⟨e.sq h1, e.sq h2⟩) mono hlen (fun i x H1 H2 hi ac y => ?_) (fun D ws H' hD e hws pr => fin D ws H' hD e hws ?_)
  · obtain ⟨T, u, v, e, hT, eH, hu, hv⟩ := y
    subst e
    subst eH
    exact ⟨_, _, ext_new hT, hw u v, fun N q => g_two upd_same q, fun QB q => q _ (Ext.refl _), fun _ H4 e4 Q1 q => elt i u v hu hv H4 (ac.step ((ext_new hT).trans e4)) Q1 q⟩
  · have : (List.range n).filter (fun _ => true) = List.range n := List.filter_eq_self.mpr fun _ _ => rfl
    rw [this] at pr
    exact pr
theorem k_lcZ {a b : Addr} {xs ys : List V} {n i1 i2 : Nat} (h1 : SqL K H a xs) (h2 : SqL K H b ys) (l1 : xs.length = n) (l2 : ys.length = n) (G : Nat → V) (hw : ∀ x y, wipe (((wipe σ vs).set i1 (some x)).set i2 (some y)) vs = wipe σ vs) (hlen : n ≤ 100000)
    (elt : ∀ i x y, xs[i]? = some x → ys[i]? = some y → ∀ H1, Ac H H1 → ∀ Q1 : VK, (∀ H2, Ext H1 H2 → Q1 (G i) H2) → te (((wipe σ vs).set i1 (some x)).set i2 (some y)) H1 Q1)
    (fin : ∀ D H', H D = none → Ext H H' → H' D = some (.lst ((List.range n).map G)) → Q (.ref D) H') : kLc (gTup K 2 (gCons (gName i1) (gCons (gName i2) gNil))) tYes te vs σ Q (Itz K a b) H :=
  k_lcZr h1 h2 l1 l2 G (fun _ v b => v = b) (fun _ _ _ _ _ h => h) hw hlen (fun i x y hx hy H1 ac Q1 q => elt i x y hx hy H1 ac Q1 fun H2 e2 => q _ H2 e2 rfl)
    (fun D ws H' hD e hws pr => fin D H' hD e (by rw [hws, paired_eq (f := fun v => v) pr, List.map_id']))
theorem r_yes {QB : Bool → Hp → Prop} (q : QB true H) : tYes σ H QB := q
theorem filter_yes {α : Type} (l : List α) : l.filter (fun _ => true) = l := by
  induction l with
  | nil => rfl
  | cons a l ih => rw [List.filter_cons, if_pos rfl, ih]
end
/-! ### tests by their propositions -/
section
variable {K : PySem.W.Frag} {σ : L2.St} {H : Hp} {Q : VK} {QB : Bool → Hp → Prop} {D : Ends} {ta tb tc : TE} {u : TT} {s1 s2 : TS} {p : Prop} [Decidable p] {r' : R2} {y : V}
theorem k_ifD (h1 : p → s1 D σ H) (h2 : ¬ p → s2 D σ H) : kIf s1 s2 D σ (decide p) H := k_if (fun e => h1 (of_decide_eq_true e)) (fun e => h2 (of_decide_eq_false e))
theorem k_ifN (h1 : ¬ p → s1 D σ H) (h2 : p → s2 D σ H) : kIf s1 s2 D σ (!decide p) H := k_if (fun e => h1 (of_decide_eq_false (by simpa using e))) (fun e => h2 (of_decide_eq_true (by simpa using e)))
theorem k_ifNN (h1 : p → s1 D σ H) (h2 : ¬ p → s2 D σ H) : kIf s1 s2 D σ (!!decide p) H := by
  rw [Bool.not_not]
  exact k_ifD h1 h2
theorem k_chainD (h1 : p → tc σ H fun w' H4 => r' y w' H4 Q) (h2 : ¬ p → Q (.bl false) H) : kChain r' tc σ y Q (.bl (decide p)) H := k_chain (fun e => h1 (of_decide_eq_true e)) (fun e => h2 (of_decide_eq_false e))
theorem k_andD (h1 : p → u σ H QB) (h2 : ¬ p → QB false H) : kAnd u σ QB (decide p) H := k_and (fun e => h1 (of_decide_eq_true e)) (fun e => h2 (of_decide_eq_false e))
theorem k_andN (h1 : ¬ p → u σ H QB) (h2 : p → QB false H) : kAnd u σ QB (!decide p) H := k_and (fun e => h1 (of_decide_eq_false (by simpa using e))) (fun e => h2 (of_decide_eq_true (by simpa using e)))
theorem k_orD (h1 : p → QB true H) (h2 : ¬ p → u σ H QB) : kOr u σ QB (decide p) H := k_or (fun e => h1 (of_decide_eq_true e)) (fun e => h2 (of_decide_eq_false e))
theorem k_orN (h1 : ¬ p → QB true H) (h2 : p → u σ H QB) : kOr u σ QB (!decide p) H := k_or (fun e => h1 (of_decide_eq_false (by simpa using e))) (fun e => h2 (of_decide_eq_true (by simpa using e)))
theorem k_andVD (h1 : p → tb σ H Q) (h2 : ¬ p → Q (.bl false) H) : kAndV tb σ Q (.bl (decide p)) H := k_andV (fun e => h1 (of_decide_eq_true e)) (fun e => h2 (of_decide_eq_false e))
theorem k_andVN (h1 : ¬ p → tb σ H Q) (h2 : p → Q (.bl false) H) : kAndV tb σ Q (.bl (!decide p)) H := k_andV (fun e => h1 (of_decide_eq_false (by simpa using e))) (fun e => h2 (of_decide_eq_true (by simpa using e)))
theorem k_orVD (h1 : p → Q (.bl true) H) (h2 : ¬ p → tb σ H Q) : kOrV tb σ Q (.bl (decide p)) H := k_orV (fun e => h1 (of_decide_eq_true e)) (fun e => h2 (of_decide_eq_false e))
theorem k_ifED (h1 : p → ta σ H Q) (h2 : ¬ p → tb σ H Q) : kIfE ta tb σ Q (decide p) H := k_ifE (fun e => h1 (of_decide_eq_true e)) (fun e => h2 (of_decide_eq_false e))
theorem k_ifTT (h1 : s1 D σ H) : kIf s1 s2 D σ true H := h1
theorem k_ifFF (h1 : s2 D σ H) : kIf s1 s2 D σ false H := h1
theorem k_ifNT (h1 : s2 D σ H) : kIf s1 s2 D σ (!true) H := h1
theorem k_ifNF (h1 : s1 D σ H) : kIf s1 s2 D σ (!false) H := h1
theorem k_andNT (h1 : QB false H) : kAnd u σ QB (!true) H := h1
theorem k_andNF (h1 : u σ H QB) : kAnd u σ QB (!false) H := h1
theorem k_orNT (h1 : u σ H QB) : kOr u σ QB (!true) H := h1
theorem k_orNF (h1 : QB true H) : kOr u σ QB (!false) H := h1
theorem k_andVNT (h1 : Q (.bl false) H) : kAndV tb σ Q (.bl (!true)) H := ⟨false, rfl, h1⟩
theorem k_andVNF (h1 : tb σ H Q) : kAndV tb σ Q (.bl (!false)) H := ⟨true, rfl, h1⟩
theorem k_orVNT (h1 : tb σ H Q) : kOrV tb σ Q (.bl (!true)) H := ⟨false, rfl, h1⟩
theorem k_orVNF (h1 : Q (.bl true) H) : kOrV tb σ Q (.bl (!false)) H := ⟨true, rfl, h1⟩
end
/-! ### in a list -/
section
variable {K : PySem.W.Frag} {H : Hp} {Q : VK}
theorem k_inL {x : V} {p : Addr} {xs : List V} (h : SqL K H p xs) (hx : flatV x = true) (hf : xs.all flatV = true) (q : Q (.bl (inV x xs)) H) : rIn K false x (.ref p) H Q := ⟨p, xs, rfl, .inl h, hx, hf, q⟩
theorem k_niL {x : V} {p : Addr} {xs : List V} (h : SqL K H p xs) (hx : flatV x = true) (hf : xs.all flatV = true) (q : Q (.bl (!inV x xs)) H) : rIn K true x (.ref p) H Q := ⟨p, xs, rfl, .inl h, hx, hf, q⟩
theorem all_flat_int (xs : List Int) : (xs.map V.int).all flatV = true := by
  rw [List.all_eq_true]
  intro v hv
  obtain ⟨n, _, rfl⟩ := List.mem_map.mp hv
  rfl
theorem all_flat_str (xs : List Str) : (xs.map V.str).all flatV = true := by
  rw [List.all_eq_true]
  intro v hv
  obtain ⟨n, _, rfl⟩ := List.mem_map.mp hv
  rfl
end
end Rv

section
local macro_rules | `(tactic| lcg_src) => `(tactic| first
  | assumption
  | (with_reducible exact Rv.lk_here)
  | (refine (Rv.lk_past (by decide +kernel)).trans ?_; lcg_src)
  | (with_unfolding_all exact rfl))
local macro_rules | `(tactic| lcg_sub) => `(tactic| first
  | assumption
  | ((with_reducible apply Rv.Ext.hl); (focus assumption); (focus lcg_sub))
  | ((with_reducible apply Rv.But.hl); (focus assumption); (focus lcg_sub); (focus lcg_sub))
  | ((with_reducible apply Rv.Ac.hl); (focus assumption); (focus lcg_sub))
  | ((with_reducible apply L2.SqL.of); (focus assumption))
  | ((with_reducible apply Rv.Ext.sq); (focus assumption); (focus lcg_sub))
  | ((with_reducible apply Rv.But.sq); (focus assumption); (focus lcg_sub); (focus lcg_sub))
  | ((with_reducible apply Rv.Ac.sq); (focus assumption); (focus lcg_sub))
  | ((with_reducible apply L2.SqT.of); (focus assumption))
  | ((with_reducible apply Rv.Ext.st); (focus assumption); (focus lcg_sub))
  | ((with_reducible apply Rv.But.st); (focus assumption); (focus lcg_sub); (focus lcg_sub))
  | ((with_reducible apply Rv.Ac.st); (focus assumption); (focus lcg_sub))
  | ((with_reducible apply L2.Rd.of); (focus lcg_sub))
  | ((with_reducible apply Rv.RivAt.ext); (focus assumption); (focus lcg_sub))
  | ((with_reducible apply Rv.RivAt.but); (focus assumption); (focus lcg_sub); (focus lcg_sub); (focus lcg_sub))
  | ((with_reducible apply Rv.RivAt.ac); (focus assumption); (focus lcg_sub))
  | (with_reducible apply Rv.nin_nil)
  | ((with_reducible apply Rv.nin_cons); (focus lcg_sub); (focus lcg_sub))
  | (with_reducible apply Rv.frs_nil)
  | ((with_reducible apply Rv.frs_cons); (focus lcg_sub); (focus lcg_sub))
  | ((with_reducible apply Ne.symm); (focus assumption))
  | ((with_reducible apply Rv.ne_nf); (focus assumption); (focus lcg_sub))
  | ((with_reducible apply Rv.ne_fn); (focus assumption); (focus lcg_sub))
  | ((with_reducible apply Rv.ne_k1); (focus assumption); (focus lcg_sub); (focus (intro z; cases z)))
  | ((with_reducible apply Rv.ne_k2); (focus assumption); (focus lcg_sub); (focus (intro z; cases z)))
  | ((with_reducible apply Rv.free2); (focus assumption); (focus lcg_sub))
  | (with_reducible apply Rv.Ac.refl)
  | ((with_reducible apply Rv.Ac.step'); (focus assumption); (focus lcg_sub))
  | ((with_reducible apply Rv.Ac.but'); (focus assumption); (focus lcg_sub); (focus lcg_sub))
  | (with_reducible apply Rv.Ext.refl)
  | ((with_reducible apply Rv.Ac.ext); (focus lcg_sub))
  | ((with_reducible apply Rv.sz_le); first | omega | (simp only [List.length_cons, List.length_nil, List.length_map, List.length_append]; omega))
  | ((with_reducible apply Rv.sz_lt); first | omega | (simp only [List.length_cons, List.length_nil, List.length_map, List.length_append]; omega)))
local macro_rules | `(tactic| lcg_off) => `(tactic| first
  | (with_reducible apply Rv.r_seq)
  | (with_reducible apply Rv.r_asg)
  | (with_reducible apply Rv.r_op)
  | ((with_reducible apply Rv.r_var); (focus with_unfolding_all rfl))
  | (with_reducible apply Rv.r_c)
  | (with_reducible apply Rv.r_if)
  | (with_reducible apply Rv.r_test)
  | (with_reducible apply Rv.r_fld)
  | (with_reducible apply Rv.r_cons)
  | (with_reducible apply Rv.r_nil)
  | (with_reducible apply Rv.r_ret)
  | (with_reducible apply Rv.r_drop)
  | (with_reducible apply Rv.r_meth)
  | (with_reducible apply Rv.r_fn)
  | (with_reducible apply Rv.r_CB)
  | (with_reducible apply Rv.r_BM)
  | (with_reducible apply Rv.r_BM0)
  | (with_reducible apply Rv.k_bl)
  | (with_reducible apply Rv.r_not)
  | (with_reducible apply Rv.r_and)
  | (with_reducible apply Rv.r_or)
  | (with_reducible apply Rv.k_andT)
  | (with_reducible apply Rv.k_andF)
  | (with_reducible apply Rv.k_orT)
  | (with_reducible apply Rv.k_orF)
  | (with_reducible apply Rv.r_tB)
  | (with_reducible apply Rv.r_chain)
  | (with_reducible apply Rv.r_un)
  | (with_reducible apply Rv.r_tup)
  | (with_reducible apply Rv.r_lst)
  | (with_reducible apply Rv.r_andV)
  | (with_reducible apply Rv.r_orV)
  | (with_reducible apply Rv.r_notV)
  | (with_reducible apply Rv.r_ifE)
  | (with_reducible apply Rv.k_notV)
  | (with_reducible apply Rv.k_andVT)
  | (with_reducible apply Rv.k_andVF)
  | (with_reducible apply Rv.k_orVT)
  | (with_reducible apply Rv.k_orVF)
  | (with_reducible apply Rv.k_addI)
  | (with_reducible apply Rv.k_subI)
  | ((with_reducible apply Rv.k_mulI); (focus (unfold L2.CMul; omega)))
  | ((with_reducible apply Rv.k_divI); (focus (unfold L2.CDiv; omega)))
  | ((with_reducible apply Rv.k_modI); (focus omega))
  | ((with_reducible apply Rv.k_powI); (focus (unfold L2.CPow; decide)))
  | (with_reducible apply Rv.k_negI)
  | (with_reducible apply Rv.k_ltI)
  | (with_reducible apply Rv.k_leI)
  | (with_reducible apply Rv.k_gtI)
  | (with_reducible apply Rv.k_geI)
  | (with_reducible apply Rv.k_eqI)
  | (with_reducible apply Rv.k_neI)
  | (with_reducible apply Rv.k_eqS)
  | (with_reducible apply Rv.k_neS)
  | (with_reducible apply Rv.k_isNN)
  | (with_reducible apply Rv.k_isNI)
  | (with_reducible apply Rv.k_isNR)
  | (with_reducible apply Rv.k_notNN)
  | (with_reducible apply Rv.k_notNI)
  | (with_reducible apply Rv.k_notNR)
  | ((with_reducible apply Rv.k_tyL); (focus lcg_sub))
  | ((with_reducible apply Rv.k_ixT); (focus lcg_sub); (focus with_unfolding_all rfl))
  | ((with_reducible apply Rv.k_ixL); (focus lcg_sub); (focus with_unfolding_all rfl))
  | ((with_reducible apply Rv.k_lenL); (focus lcg_sub))
  | ((with_reducible apply Rv.k_lenU); (focus lcg_sub))
  | ((with_reducible apply Rv.k_tup); (focus lcg_sub))
  | ((with_reducible apply Rv.k_lst); (focus lcg_sub))
  | ((with_reducible apply Rv.k_list); (focus lcg_sub))
  | ((with_reducible apply Rv.k_append); (focus lcg_sub); (focus lcg_sub))
  | ((with_reducible apply Rv.k_cat); (focus lcg_sub); (focus lcg_sub); (focus lcg_sub))
  | ((with_reducible apply Rv.k_clear); (focus lcg_sub))
  | (with_reducible apply Rv.k_int1)
  | (with_reducible apply Rv.k_max2)
  | (with_reducible apply Rv.k_min2)
  | (with_reducible apply Rv.k_str)
  | (with_reducible apply Rv.k_part)
  | (with_reducible apply Rv.r_M1)
  | (with_reducible apply Rv.r_dget)
  | (with_reducible apply Rv.r_din)
  | (with_reducible apply Rv.r_dnotin)
  | (with_reducible apply Rv.r_dget2)
  | (with_reducible apply Rv.r_sl)
  | (with_reducible apply Rv.r_nopart)
  | (with_reducible apply Rv.r_part)
  | (with_reducible apply Rv.r_for)
  | (with_reducible apply Rv.r_lc)
  | (with_reducible apply Rv.r_yes)
  | (with_reducible apply Rv.r_iList)
  | (with_reducible apply Rv.r_iRng1)
  | (with_reducible apply Rv.r_iRng2)
  | (with_reducible apply Rv.r_iZip)
  | (with_reducible apply Rv.r_iStr)
  | (with_reducible apply Rv.r_iKeys)
  | (with_reducible apply Rv.r_lstRg)
  | ((with_reducible apply Rv.k_itl); (focus lcg_sub))
  | ((with_reducible apply Rv.k_zip); (focus lcg_sub); (focus lcg_sub))
  | ((with_reducible apply Rv.k_rng1); (focus omega))
  | ((with_reducible apply Rv.k_rng2); (focus omega))
  | (with_reducible apply Rv.k_its)
  | (with_reducible apply Rv.r_retN)
  | (with_reducible apply Rv.r_next)
  | (with_reducible apply Rv.r_setF)
  | (with_reducible apply Rv.r_dput)
  | (with_reducible apply Rv.r_setI)
  | (with_reducible apply Rv.r_raise)
  | (with_reducible apply Rv.r_wF)
  | (with_reducible apply Rv.k_ifTT)
  | (with_reducible apply Rv.k_ifFF)
  | (with_reducible apply Rv.k_ifNT)
  | (with_reducible apply Rv.k_ifNF)
  | (with_reducible apply Rv.k_andNT)
  | (with_reducible apply Rv.k_andNF)
  | (with_reducible apply Rv.k_orNT)
  | (with_reducible apply Rv.k_orNF)
  | (with_reducible apply Rv.k_andVNT)
  | (with_reducible apply Rv.k_andVNF)
  | (with_reducible apply Rv.k_orVNT)
  | (with_reducible apply Rv.k_orVNF)
  | (with_reducible apply Rv.k_isB_ii)
  | (with_reducible apply Rv.k_isB_ib)
  | (with_reducible apply Rv.k_isB_bi)
  | (with_reducible apply Rv.k_isB_bb)
  | (with_reducible apply Rv.k_isB_ni)
  | (with_reducible apply Rv.k_isB_ss)
  | ((with_reducible apply Rv.k_isB_ll); (focus lcg_sub))
  | ((with_reducible apply Rv.k_isB_tt); (focus lcg_sub))
  | (with_reducible apply Rv.r_mk)
  | (with_reducible apply Rv.r_rg1)
  | (with_reducible apply Rv.k_rg1))
namespace Rv
open PySem L2
/-! ### the river -/
abbrev nV (n : Nat) : V := .int (n : Int)
def oV (o : Option Int) : V := match o with
  | none => .non
  | some n => .int n
def belV (B : List Nat) : List V := .non :: B.map nV
def belO (B : List Nat) (p : Nat) : V := match p with
  | 0 => .non
  | q + 1 => nV (B.getD q 0)
/-- each point but the mouth has a lesser one below it: B, from point 1 on -/
structure Riv (B : List Nat) : Prop where
  few : B.length < 40
  low : ∀ i, i < B.length → B.getD i 0 ≤ i
theorem belV_len (B : List Nat) : (belV B).length = B.length + 1 := by
  unfold belV
  rw [List.length_cons, List.length_map]
theorem belV_get {B : List Nat} {p : Nat} (h : p ≤ B.length) : (belV B)[p]? = some (belO B p) := by
  cases p with
  | zero => rfl
  | succ q =>
    show (List.map _ B)[q]? = some (nV (B.getD q 0))
    have : B[q]? = some B[q] := by simp [show q < B.length by omega]
    rw [List.getElem?_map, List.getD_eq_getElem?_getD, this]
    rfl
theorem belV_at {B : List Nat} {p : Nat} (h : p ≤ B.length) : atI (belV B) (p : Int) = some (belO B p) := atI_nat (belV_get h)
structure RivAt (c : Cs) (H : Hp) (r l : Addr) (B : List Nat) : Prop where
  ob : ∃ dx, H r = some (.ins c.river dx [("lower", .ref l)])
  li : H l = some (.lst (belV B))
  ok : Riv B
structure RiverT (c : Cs) : Prop where
  cl : Cls c.K c.river
  nL : NoAttr c.K c.river "lower"
section
variable {c : Cs} {H H' : Hp} {r l : Addr} {B : List Nat}
theorem RivAt.ext (e : Ext H H') (h : RivAt c H r l B) : RivAt c H' r l B := ⟨let ⟨dx, q⟩ := h.ob; ⟨dx, e.g _ _ q⟩, e.g _ _ h.li, h.ok⟩
theorem RivAt.ac (e : Ac H H') (h : RivAt c H r l B) : RivAt c H' r l B := h.ext e.ext
theorem RivAt.but {S : List Addr} (e : But S H H') (h : RivAt c H r l B) (n1 : r ∉ S) (n2 : l ∉ S) : RivAt c H' r l B := ⟨let ⟨dx, q⟩ := h.ob; ⟨dx, e.g _ _ q n1⟩, e.g _ _ h.li n2, h.ok⟩
end
/-- the way of a point -/
def wayM (B : List Nat) : Nat → List Nat
  | 0 => [0]
  | p + 1 => (p + 1) :: wayM B (min (B.getD p 0) p)
termination_by p => p
decreasing_by omega
theorem wayM_zero (B : List Nat) : wayM B 0 = [0] := by unfold wayM; rfl
theorem wayM_succ {B : List Nat} (h : Riv B) {p : Nat} (hp : p < B.length) : wayM B (p + 1) = (p + 1) :: wayM B (B.getD p 0) := by
  have := h.low p hp
  rw [wayM, Nat.min_eq_left this]
theorem wayM_le {B : List Nat} : ∀ (p q : Nat), q ∈ wayM B p → q ≤ p := by
  intro p
  induction p using Nat.strongRecOn with
  | _ p ih =>
    intro q hq
    cases p with
    | zero =>
      rw [wayM_zero] at hq
      simp at hq
      omega
    | succ n =>
      rw [wayM] at hq
      rcases List.mem_cons.mp hq with e | hq
      · omega
      · have := ih _ (by omega) q hq
        omega
theorem wayM_len {B : List Nat} : ∀ (p : Nat), (wayM B p).length ≤ p + 1 := by
  intro p
  induction p using Nat.strongRecOn with
  | _ p ih =>
    cases p with
    | zero => rw [wayM_zero]; exact Nat.le_refl _
    | succ n =>
      rw [wayM, List.length_cons]
      have := ih _ (show min (B.getD n 0) n < n + 1 by omega)
      omega
def aboveM (B : List Nat) (p : Nat) : List Nat := (List.range (B.length + 1)).filter fun k => decide (p ∈ wayM B k)
theorem aboveM_len (B : List Nat) (p : Nat) : (aboveM B p).length ≤ B.length + 1 := by
  unfold aboveM
  have := List.length_filter_le (fun k => decide (p ∈ wayM B k)) (List.range (B.length + 1))
  rw [List.length_range] at this
  omega
/-- what is left of the way: none, or a point and on -/
def restM (B : List Nat) : Option Nat → List Nat
  | none => []
  | some q => wayM B q
def oN (o : Option Nat) : V := match o with
  | none => .non
  | some n => nV n
def nextM (B : List Nat) : Nat → Option Nat
  | 0 => none
  | q + 1 => some (B.getD q 0)
theorem oN_next (B : List Nat) (q : Nat) : oN (nextM B q) = belO B q := by cases q <;> rfl
theorem rest_next {B : List Nat} (h : Riv B) {q : Nat} (hq : q ≤ B.length) : wayM B q = q :: restM B (nextM B q) := by
  cases q with
  | zero => rw [wayM_zero]; rfl
  | succ n => rw [wayM_succ h (by omega)]; rfl
theorem next_le {B : List Nat} (h : Riv B) {q m : Nat} (hq : q ≤ B.length) (e : nextM B q = some m) : m < q ∧ m ≤ B.length := by
  cases q with
  | zero => cases e
  | succ n =>
    have e' : B.getD n 0 = m := Option.some.inj e
    have := h.low n (by omega)
    omega
def sizeO : Option Nat → Nat
  | none => 0
  | some q => q + 1
theorem all_flat_nV (xs : List Nat) : (xs.map nV).all flatV = true := by
  rw [List.all_eq_true]
  intro v hv
  obtain ⟨n, _, rfl⟩ := List.mem_map.mp hv
  rfl
theorem inV_nV (p : Nat) (xs : List Nat) : inV (nV p) (xs.map nV) = decide (p ∈ xs) := by
  unfold inV
  rw [List.any_map]
  by_cases h : p ∈ xs
  · rw [decide_eq_true h, List.any_eq_true]
    exact ⟨p, h, by show ((p : Int) == (p : Int)) = true; simp⟩
  · rw [decide_eq_false h, List.any_eq_false]
    intro q hq e
    have e' : ((q : Int) == (p : Int)) = true := e
    have : q = p := by
      have e2 := eq_of_beq e'
      omega
    exact h (this ▸ hq)
theorem at0 {α : Type} (x : α) (xs : List α) : atI (x :: xs) 0 = some x := atI_nat (j := 0) rfl
/-! ### promises -/
def sp_River_points (c : Cs) : Sp := fun vs H Q E => ∃ r l B, vs = [.ref r] ∧ RivAt c H r l B ∧ Q (.int ((B.length : Int) + 1)) H
def sp_River_below (c : Cs) : Sp := fun vs H Q E => ∃ r l B z, vs = [.ref r, .int z] ∧ RivAt c H r l B ∧ (∀ p : Nat, z = p → p ≤ B.length → Q (belO B p) H) ∧ (¬ (0 ≤ z ∧ z ≤ B.length) → E (.ref c.noPoint) none H)
def sp_River_way (c : Cs) : Sp := fun vs H Q E => ∃ r l B z, vs = [.ref r, .int z] ∧ RivAt c H r l B ∧
  (∀ p : Nat, z = p → p ≤ B.length → ∀ a H', H a = none → Ext H H' → H' a = some (.lst ((wayM B p).map nV)) → Q (.ref a) H') ∧ (¬ (0 ≤ z ∧ z ≤ B.length) → ∀ H', Ext H H' → E (.ref c.noPoint) none H')
def sp_River_above (c : Cs) : Sp := fun vs H Q E => ∃ r l B z, vs = [.ref r, .int z] ∧ RivAt c H r l B ∧
  (∀ p : Nat, z = p → p ≤ B.length → ∀ a H', H a = none → Ext H H' → H' a = some (.lst ((aboveM B p).map nV)) → Q (.ref a) H') ∧ (¬ (0 ≤ z ∧ z ≤ B.length) → E (.ref c.noPoint) none H)
/-- a list that tells a river -/
def Tells (rows : List (Option Int)) (B : List Nat) : Prop := rows.map oV = belV B ∧ Riv B
theorem rows_of : ∀ {rest : List (Option Int)} {B : List Nat}, rest.map oV = B.map nV → rest = B.map fun (n : Nat) => some (n : Int)
  | [], [], _ => rfl
  | [], _ :: _, h => by cases h
  | _ :: _, [], h => by cases h
  | o :: rest, n :: B, h => by
    have h1 : oV o = nV n := (List.cons.inj h).1
    have h2 := rows_of (List.cons.inj h).2
    cases o with
    | none => cases h1
    | some m =>
      have e : m = (n : Int) := V.int.inj h1
      rw [h2, e]
      rfl
theorem tells_get {rest : List (Option Int)} {B : List Nat} (t : Tells (none :: rest) B) {i : Nat} (h : i < rest.length) : rest[i]? = some (some ((B.getD i 0 : Nat) : Int)) ∧ B.getD i 0 ≤ i := by
  have e := rows_of (List.cons.inj t.1).2
  have hl : rest.length = B.length := by rw [e, List.length_map]
  refine ⟨?_, t.2.low i (by omega)⟩
  have hb : B[i]? = some B[i] := by simp [show i < B.length by omega]
  rw [e, List.getElem?_map, List.getD_eq_getElem?_getD, hb]
  rfl
theorem tells_of {rest : List (Option Int)} (hl : rest.length < 40) (h : ∀ j, j < rest.length → ∃ m : Nat, rest[j]? = some (some (m : Int)) ∧ m ≤ j) : ∃ B, Tells (none :: rest) B := by
  refine ⟨rest.map fun o => (o.getD 0).toNat, ?_, by rw [List.length_map]; exact hl, fun i hi => ?_⟩
  · show V.non :: rest.map oV = V.non :: (rest.map fun o => (o.getD 0).toNat).map nV
    rw [List.map_map]
    refine congrArg (V.non :: ·) (List.map_congr_left fun o ho => ?_)
    obtain ⟨j, hj, e⟩ := List.getElem_of_mem ho
    obtain ⟨m, hm, _⟩ := h j hj
    rw [List.getElem?_eq_getElem hj, e] at hm
    cases hm
    show V.int (m : Int) = V.int (((m : Int).toNat : Nat) : Int)
    rw [Int.toNat_natCast]
  · rw [List.length_map] at hi
    obtain ⟨m, hm, hle⟩ := h i hi
    rw [List.getD_eq_getElem?_getD, List.getElem?_map, hm]
    show ((m : Int)).toNat ≤ i
    rw [Int.toNat_natCast]
    exact hle
def sp_River_init (c : Cs) : Sp := fun vs H Q E => ∃ x dx b rows, vs = [.ref x, .ref b] ∧ H x = some (.ins c.river dx []) ∧ SqL c.K H b (rows.map oV) ∧ rows.length ≤ 1000 ∧
  (∀ B, Tells rows B → ∀ l H', H l = none → But [x] H H' → RivAt c H' x l B → Q .non H') ∧ ((∀ B, ¬ Tells rows B) → E (.ref c.badRiver) none H)
-- River_points: 0 self
def t_River_points (c : Cs) (E : XK) : TS :=
  (tRet (tCB (rLenS c.K) (tCons (tFld c.K (tVar 0) "lower") tNil)))
-- River_below: 0 self 1 point
def t_River_below (c : Cs) (E : XK) : TS :=
  (tSeq (tIfS (tNot (tTest (tChain rLeI rLtI (tC (.int 0)) (tVar 1) (tCB (rLenS c.K) (tCons (tFld c.K (tVar 0) "lower") tNil))))) (tRaise (wF E) c.noPoint) tNext)
  (tRet (tOp (rIxL c.K) (tFld c.K (tVar 0) "lower") (tVar 1))))
-- River_way: 0 self 1 point 2 found
def t_River_way (c : Cs) (E : XK) : TS :=
  (tSeq (tAsg (tLst tNil) (gName 2))
  (tSeq (tWhile (tTest (tOp rNotNon (tVar 1) (tC .non))) (tSeq (tDrop (tBM c.K "list" rAppend (tVar 2) (tCons (tVar 1) tNil)))
  (tAsg (tMethS c.river "below" (sp_River_below c) (wF E) (tVar 0) (tCons (tVar 1) tNil)) (gName 1))))
  (tRet (tVar 2))))
-- River_above: 0 self 1 point 2 other
def t_River_above (c : Cs) (E : XK) : TS :=
  (tSeq (tDrop (tMethS c.river "below" (sp_River_below c) (wF E) (tVar 0) (tCons (tVar 1) tNil)))
  (tRet (tLc (iRng1 (tCons (tCB (rLenS c.K) (tCons (tFld c.K (tVar 0) "lower") tNil)) tNil)) (gName 2) (tTest (tOp (rIn c.K false) (tVar 1) (tMethS c.river "way" (sp_River_way c) wN (tVar 0) (tCons (tVar 2) tNil)))) (tVar 2) [2])))
-- River_init: 0 self 1 below 2 point
def t_River_init (c : Cs) (E : XK) : TS :=
  (tSeq (tIfS (tOr (tNot (tTest (tChain rLeI rLeI (tC (.int 1)) (tCB (rLenS c.K) (tCons (tVar 1) tNil)) (tC (.int 40))))) (tTest (tOp rNotNon (tOp (rIxL c.K) (tVar 1) (tC (.int 0))) (tC .non)))) (tRaise (wF E) c.badRiver) tNext)
  (tSeq (tFor (iRng2 (tCons (tC (.int 1)) (tCons (tCB (rLenS c.K) (tCons (tVar 1) tNil)) tNil))) (gName 2)
  (tIfS (tOr (tTest (tOp rIsNon (tOp (rIxL c.K) (tVar 1) (tVar 2)) (tC .non))) (tNot (tTest (tChain rLeI rLtI (tC (.int 0)) (tOp (rIxL c.K) (tVar 1) (tVar 2)) (tVar 2))))) (tRaise (wF E) c.badRiver) tNext))
  (sFld c.K (tVar 0) (tCB (rListS c.K) (tCons (tVar 1) tNil)) "lower")))
section
variable {c : Cs}
theorem pure_River_points (R : RiverT c) (vs : List V) (H : Hp) (Q : VK) (E : XK) (h : sp_River_points c vs H Q E) : t_River_points c E { nx := fun _ H' => Q .non H', rt := Q } (start ["self"] vs) H := by
  obtain ⟨r, l, B, rfl, A, k⟩ := h
  obtain ⟨dx, hr⟩ := A.ob
  have hl := A.li
  unfold t_River_points
  repeat lcg_off
  refine k_fld hr R.cl R.nL (by lcg_src) ?_
  repeat lcg_off
  rw [belV_len]
  exact_mod_cast k
theorem pure_River_below (R : RiverT c) (vs : List V) (H : Hp) (Q : VK) (E : XK) (h : sp_River_below c vs H Q E) : t_River_below c E { nx := fun _ H' => Q .non H', rt := Q } (start ["self", "point"] vs) H := by
  obtain ⟨r, l, B, z, rfl, A, k, kE⟩ := h
  obtain ⟨dx, hr⟩ := A.ob
  have hl := A.li
  unfold t_River_below
  repeat lcg_off
  refine k_chainD (fun h1 => ?_) (fun h1 => ?_)
  · repeat lcg_off
    refine k_fld hr R.cl R.nL (by lcg_src) ?_
    repeat lcg_off
    rw [belV_len]
    refine k_ifN (fun h2 => ?_) (fun h2 => ?_)
    · repeat lcg_off
      exact kE (by omega)
    · repeat lcg_off
      refine k_fld hr R.cl R.nL (by lcg_src) ?_
      repeat lcg_off
      obtain ⟨p, rfl⟩ := Int.eq_ofNat_of_zero_le h1
      exact k_ixL (by lcg_sub) (belV_at (by omega)) (k p rfl (by omega))
  · repeat lcg_off
    exact kE (by omega)
theorem pure_River_way (R : RiverT c) (vs : List V) (H : Hp) (Q : VK) (E : XK) (h : sp_River_way c vs H Q E) : t_River_way c E { nx := fun _ H' => Q .non H', rt := Q } (start ["self", "point", "found"] vs) H := by
  obtain ⟨r, l, B, z, rfl, A, k, kE⟩ := h
  unfold t_River_way
  repeat lcg_off
  intro a H1 ha e1 h1
  repeat lcg_off
  by_cases hz : 0 ≤ z ∧ z ≤ B.length
  · obtain ⟨p, rfl⟩ := Int.eq_ofNat_of_zero_le hz.1
    refine r_while (fun m σ H' => ∃ pre o, σ = [some (.ref r), some (oN o), some (.ref a)] ∧ Ac H H' ∧ H' a = some (.lst (List.map nV pre)) ∧ pre ++ restM B o = wayM B p ∧ (∀ q, o = some q → q ≤ B.length) ∧ m = sizeO o) (m0 := p + 1) ?_ ?_ ?_
    · exact ⟨[], some p, rfl, e1.ac, h1, rfl, fun q e => by cases e; omega, rfl⟩
    · rintro m σ H' ⟨pre, o, rfl, ac, hp, hw, ho, rfl⟩
      cases o with
      | none =>
        show tTest _ [some (.ref r), some .non, some (.ref a)] _ _
        repeat lcg_off
        have : pre = wayM B p := by rw [← hw]; exact (List.append_nil _).symm
        subst this
        exact k p rfl (by omega) a H' ha ac.ext hp
      | some q =>
        have hq := ho q rfl
        have hlen : pre.length ≤ 1000 := by
          have h1 := congrArg List.length hw
          rw [List.length_append] at h1
          have := wayM_len (B := B) p
          have := A.ok.few
          omega
        show tTest _ [some (.ref r), some (.int (q : Int)), some (.ref a)] _ _
        repeat lcg_off
        intro H2 b2 h2
        repeat lcg_off
        refine k_meth (A.ext (ac.but b2 (by lcg_sub)).ext).ob.choose_spec (by lcg_src) ?_
        repeat lcg_off
        refine ⟨r, l, B, q, rfl, A.ext (ac.but b2 (by lcg_sub)).ext, fun q' e hq' => ?_, fun hn => absurd hn (by omega)⟩
        have e' : q = q' := by omega
        subst e'
        refine ⟨sizeO (nextM B q), ?_, pre ++ [q], nextM B q, ?_, ac.but b2 (by lcg_sub), ?_, ?_, fun m e => (next_le A.ok hq e).2, rfl⟩
        · cases e : nextM B q with
          | none => exact Nat.succ_pos _
          | some m =>
            have := (next_le A.ok hq e).1
            show m + 1 < q + 1
            omega
        · rw [oN_next]
          rfl
        · rw [h2, List.map_append]
          rfl
        · rw [← hw, List.append_assoc]
          show pre ++ (q :: restM B (nextM B q)) = pre ++ wayM B q
          rw [← rest_next A.ok hq]
    · intro σ' H' Q1 Q2 hQ h
      exact h.imp fun v hv => ⟨hv.1, ⟨hv.2.1, hv.2.2.imp fun b hb => ⟨hb.1, hQ _ _ hb.2⟩⟩⟩
  · refine r_while (fun m σ H' => σ = [some (.ref r), some (.int z), some (.ref a)] ∧ H' = H1) (m0 := 0) ⟨rfl, rfl⟩ ?_ ?_
    · rintro m σ H' ⟨rfl, rfl⟩
      repeat lcg_off
      intro H2 b2 h2
      have ac2 : Ac H H2 := e1.ac.but b2 (by lcg_sub)
      repeat lcg_off
      refine k_meth (A.ext ac2.ext).ob.choose_spec (by lcg_src) ?_
      repeat lcg_off
      exact ⟨r, l, B, z, rfl, A.ext ac2.ext, fun p e hp => absurd hz (by omega), fun hn => kE hn H2 ac2.ext⟩
    · intro σ' H' Q1 Q2 hQ h
      exact h.imp fun v hv => ⟨hv.1, ⟨hv.2.1, hv.2.2.imp fun b hb => ⟨hb.1, hQ _ _ hb.2⟩⟩⟩
theorem pure_River_above (R : RiverT c) (vs : List V) (H : Hp) (Q : VK) (E : XK) (h : sp_River_above c vs H Q E) : t_River_above c E { nx := fun _ H' => Q .non H', rt := Q } (start ["self", "point", "other"] vs) H := by
  obtain ⟨r, l, B, z, rfl, A, k, kE⟩ := h
  obtain ⟨dx, hr⟩ := A.ob
  have hl := A.li
  have hf := A.ok.few
  unfold t_River_above
  repeat lcg_off
  refine k_meth hr (by lcg_src) ?_
  repeat lcg_off
  refine ⟨r, l, B, z, rfl, A, fun p e hp => ?_, kE⟩
  subst e
  repeat lcg_off
  refine k_fld hr R.cl R.nL (by lcg_src) ?_
  repeat lcg_off
  rw [belV_len]
  refine k_rng1 (by omega) ?_
  refine k_lcR (fun k => decide (p ∈ wayM B k)) nV (fun x => rfl) (by omega) (fun i hi H1 ac QB q => ?_) (fun i hi hp H1 ac Q1 q => ?_) (fun D H' hD e hd => ?_)
  · repeat lcg_off
    rw [Int.zero_add]
    refine k_meth (A.ext ac.ext).ob.choose_spec (by lcg_src) ?_
    repeat lcg_off
    refine ⟨r, l, B, i, rfl, A.ext ac.ext, fun i' e hi' => ?_, fun hn => absurd hn (by omega)⟩
    have e' : i = i' := by omega
    subst e'
    intro a H2 ha e2 h2
    refine k_inL (by lcg_sub) rfl (all_flat_nV _) ?_
    repeat lcg_off
    rw [inV_nV]
    exact q H2 e2
  · repeat lcg_off
    rw [Int.zero_add]
    exact q H1 (Ext.refl _)
  · refine k p rfl hp D H' hD e ?_
    rw [hd]
    rfl
theorem pure_River_init (R : RiverT c) (vs : List V) (H : Hp) (Q : VK) (E : XK) (h : sp_River_init c vs H Q E) : t_River_init c E { nx := fun _ H' => Q .non H', rt := Q } (start ["self", "below", "point"] vs) H := by
  obtain ⟨x, dx, b, rows, rfl, hx, hb, hlen, k, kE⟩ := h
  unfold t_River_init
  repeat lcg_off
  refine k_chainD (fun h1 => ?_) (fun h1 => ?_)
  · repeat lcg_off
    rw [List.length_map] at h1 ⊢
    refine k_orN (fun h2 => ?_) (fun h2 => ?_)
    · repeat lcg_off
      refine kE fun B t => ?_
      have := congrArg List.length t.1
      have h3 := t.2.few
      rw [List.length_map, belV_len] at this
      omega
    · repeat lcg_off
      cases rows with
      | nil => exact absurd h1 (by simp)
      | cons o rest =>
        refine k_ixL hb (at0 _ _) ?_
        cases o with
        | some n =>
          dsimp only [oV]
          repeat lcg_off
          refine kE fun B t => ?_
          have := t.1
          cases this
        | none =>
          dsimp only [oV]
          repeat lcg_off
          rw [List.length_map]
          have hr : rest.length < 40 := by
            rw [List.length_cons] at h2
            omega
          have hn : (((none :: rest).length : Int) - 1).toNat = rest.length := by
            rw [List.length_cons]
            omega
          refine k_rng2 (by omega) ?_
          rw [hn]
          have hget : ∀ (i : Nat) o, rest[i]? = some o → atI ((none :: rest).map oV) (1 + (i : Int)) = some (oV o) := fun i o e => by
            have := atI_nat (xs := (none :: rest).map oV) (j := i + 1) (v := oV o) (by rw [List.getElem?_map, List.getElem?_cons_succ, e]; rfl)
            rw [← this]
            congr 1
            omega
          refine k_forR (fun i σ H' => (∃ v, σ = [some (.ref x), some (.ref b), v]) ∧ H' = H ∧ ∀ j, j < i → ∃ m : Nat, rest[j]? = some (some (m : Int)) ∧ m ≤ j) ⟨⟨_, rfl⟩, rfl, fun j hj => absurd hj (Nat.not_lt_zero _)⟩ ?_ ?_
          · rintro i σ H' hi ⟨⟨v, rfl⟩, rfl, hj⟩
            have hg : rest[i]? = some rest[i] := by simp [hi]
            show tIfS _ _ _ _ [some (.ref x), some (.ref b), some (.int (1 + (i : Int)))] _
            repeat lcg_off
            refine k_ixL hb (hget i _ hg) ?_
            have bad : (∀ m : Nat, rest[i]? = some (some (m : Int)) → ¬ m ≤ i) → E (.ref c.badRiver) none H' := fun hm => kE fun B t => hm _ (tells_get t hi).1 (tells_get t hi).2
            cases e : rest[i] with
            | none =>
              rw [e] at hg
              dsimp only [oV]
              repeat lcg_off
              exact bad fun m hm => by rw [hg] at hm; cases hm
            | some z =>
              rw [e] at hg
              dsimp only [oV]
              repeat lcg_off
              refine k_ixL hb (hget i _ hg) ?_
              dsimp only [oV]
              repeat lcg_off
              refine k_chainD (fun h3 => ?_) (fun h3 => ?_)
              · repeat lcg_off
                refine k_ifN (fun h4 => ?_) (fun h4 => ?_)
                · repeat lcg_off
                  refine bad fun m hm => ?_
                  rw [hg] at hm
                  cases hm
                  omega
                · repeat lcg_off
                  refine ⟨⟨_, rfl⟩, rfl, fun j hj' => ?_⟩
                  by_cases ej : j = i
                  · subst ej
                    refine ⟨z.toNat, ?_, by omega⟩
                    rw [hg, Int.toNat_of_nonneg h3]
                  · exact hj j (by omega)
              · repeat lcg_off
                refine bad fun m hm => ?_
                rw [hg] at hm
                cases hm
                omega
          · rintro σ H' ⟨⟨v, rfl⟩, rfl, hj⟩
            obtain ⟨B, t⟩ := tells_of hr hj
            repeat lcg_off
            intro p H1 hp e1 h1'
            repeat lcg_off
            refine k_setF (e1.g _ _ hx) R.cl R.nL (by show 0 < 1000; decide) fun H2 b2 h2' => ?_
            have hpx : p ≠ x := (ne_of_none hx hp).symm
            refine k B t p H2 hp ⟨fun a o e n => b2.g _ _ (e1.g _ _ e) n⟩ ⟨⟨dx, h2'⟩, ?_, t.2⟩
            rw [← t.1]
            exact b2.g _ _ h1' (by lcg_sub)
  · repeat lcg_off
    refine kE fun B t => ?_
    have := congrArg List.length t.1
    rw [List.length_map] at *
    rw [belV_len] at this
    omega
end
end Rv

end
section
local macro_rules | `(tactic| lcg_src) => `(tactic| first
  | assumption
  | (with_reducible exact Rv.lk_here)
  | (refine (Rv.lk_past (by decide +kernel)).trans ?_; lcg_src)
  | (with_unfolding_all exact rfl))
local macro_rules | `(tactic| lcg_sub) => `(tactic| first
  | assumption
  | ((with_reducible apply Rv.Ext.hl); (focus assumption); (focus lcg_sub))
  | ((with_reducible apply Rv.But.hl); (focus assumption); (focus lcg_sub); (focus lcg_sub))
  | ((with_reducible apply Rv.Ac.hl); (focus assumption); (focus lcg_sub))
  | ((with_reducible apply L2.SqL.of); (focus assumption))
  | ((with_reducible apply Rv.Ext.sq); (focus assumption); (focus lcg_sub))
  | ((with_reducible apply Rv.But.sq); (focus assumption); (focus lcg_sub); (focus lcg_sub))
  | ((with_reducible apply Rv.Ac.sq); (focus assumption); (focus lcg_sub))
  | ((with_reducible apply L2.SqT.of); (focus assumption))
  | ((with_reducible apply Rv.Ext.st); (focus assumption); (focus lcg_sub))
  | ((with_reducible apply Rv.But.st); (focus assumption); (focus lcg_sub); (focus lcg_sub))
  | ((with_reducible apply Rv.Ac.st); (focus assumption); (focus lcg_sub))
  | ((with_reducible apply L2.Rd.of); (focus lcg_sub))
  | ((with_reducible apply Rv.RivAt.ext); (focus assumption); (focus lcg_sub))
  | ((with_reducible apply Rv.RivAt.but); (focus assumption); (focus lcg_sub); (focus lcg_sub); (focus lcg_sub))
  | ((with_reducible apply Rv.RivAt.ac); (focus assumption); (focus lcg_sub))
  | (with_reducible apply Rv.nin_nil)
  | ((with_reducible apply Rv.nin_cons); (focus lcg_sub); (focus lcg_sub))
  | (with_reducible apply Rv.frs_nil)
  | ((with_reducible apply Rv.frs_cons); (focus lcg_sub); (focus lcg_sub))
  | ((with_reducible apply Ne.symm); (focus assumption))
  | ((with_reducible apply Rv.ne_nf); (focus assumption); (focus lcg_sub))
  | ((with_reducible apply Rv.ne_fn); (focus assumption); (focus lcg_sub))
  | ((with_reducible apply Rv.ne_k1); (focus assumption); (focus lcg_sub); (focus (intro z; cases z)))
  | ((with_reducible apply Rv.ne_k2); (focus assumption); (focus lcg_sub); (focus (intro z; cases z)))
  | ((with_reducible apply Rv.free2); (focus assumption); (focus lcg_sub))
  | (with_reducible apply Rv.Ac.refl)
  | ((with_reducible apply Rv.Ac.step'); (focus assumption); (focus lcg_sub))
  | ((with_reducible apply Rv.Ac.but'); (focus assumption); (focus lcg_sub); (focus lcg_sub))
  | (with_reducible apply Rv.Ext.refl)
  | ((with_reducible apply Rv.Ac.ext); (focus lcg_sub))
  | ((with_reducible apply Rv.sz_le); first | omega | (simp only [List.length_cons, List.length_nil, List.length_map, List.length_append]; omega))
  | ((with_reducible apply Rv.sz_lt); first | omega | (simp only [List.length_cons, List.length_nil, List.length_map, List.length_append]; omega)))
local macro_rules | `(tactic| lcg_off) => `(tactic| first
  | (with_reducible apply Rv.r_seq)
  | (with_reducible apply Rv.r_asg)
  | (with_reducible apply Rv.r_op)
  | ((with_reducible apply Rv.r_var); (focus with_unfolding_all rfl))
  | (with_reducible apply Rv.r_c)
  | (with_reducible apply Rv.r_if)
  | (with_reducible apply Rv.r_test)
  | (with_reducible apply Rv.r_fld)
  | (with_reducible apply Rv.r_cons)
  | (with_reducible apply Rv.r_nil)
  | (with_reducible apply Rv.r_ret)
  | (with_reducible apply Rv.r_drop)
  | (with_reducible apply Rv.r_meth)
  | (with_reducible apply Rv.r_fn)
  | (with_reducible apply Rv.r_CB)
  | (with_reducible apply Rv.r_BM)
  | (with_reducible apply Rv.r_BM0)
  | (with_reducible apply Rv.k_bl)
  | (with_reducible apply Rv.r_not)
  | (with_reducible apply Rv.r_and)
  | (with_reducible apply Rv.r_or)
  | (with_reducible apply Rv.k_andT)
  | (with_reducible apply Rv.k_andF)
  | (with_reducible apply Rv.k_orT)
  | (with_reducible apply Rv.k_orF)
  | (with_reducible apply Rv.r_tB)
  | (with_reducible apply Rv.r_chain)
  | (with_reducible apply Rv.r_un)
  | (with_reducible apply Rv.r_tup)
  | (with_reducible apply Rv.r_lst)
  | (with_reducible apply Rv.r_andV)
  | (with_reducible apply Rv.r_orV)
  | (with_reducible apply Rv.r_notV)
  | (with_reducible apply Rv.r_ifE)
  | (with_reducible apply Rv.k_notV)
  | (with_reducible apply Rv.k_andVT)
  | (with_reducible apply Rv.k_andVF)
  | (with_reducible apply Rv.k_orVT)
  | (with_reducible apply Rv.k_orVF)
  | (with_reducible apply Rv.k_addI)
  | (with_reducible apply Rv.k_subI)
  | ((with_reducible apply Rv.k_mulI); (focus (unfold L2.CMul; omega)))
  | ((with_reducible apply Rv.k_divI); (focus (unfold L2.CDiv; omega)))
  | ((with_reducible apply Rv.k_modI); (focus omega))
  | ((with_reducible apply Rv.k_powI); (focus (unfold L2.CPow; decide)))
  | (with_reducible apply Rv.k_negI)
  | (with_reducible apply Rv.k_ltI)
  | (with_reducible apply Rv.k_leI)
  | (with_reducible apply Rv.k_gtI)
  | (with_reducible apply Rv.k_geI)
  | (with_reducible apply Rv.k_eqI)
  | (with_reducible apply Rv.k_neI)
  | (with_reducible apply Rv.k_eqS)
  | (with_reducible apply Rv.k_neS)
  | (with_reducible apply Rv.k_isNN)
  | (with_reducible apply Rv.k_isNI)
  | (with_reducible apply Rv.k_isNR)
  | (with_reducible apply Rv.k_notNN)
  | (with_reducible apply Rv.k_notNI)
  | (with_reducible apply Rv.k_notNR)
  | ((with_reducible apply Rv.k_tyL); (focus lcg_sub))
  | ((with_reducible apply Rv.k_ixT); (focus lcg_sub); (focus with_unfolding_all rfl))
  | ((with_reducible apply Rv.k_ixL); (focus lcg_sub); (focus with_unfolding_all rfl))
  | ((with_reducible apply Rv.k_lenL); (focus lcg_sub))
  | ((with_reducible apply Rv.k_lenU); (focus lcg_sub))
  | ((with_reducible apply Rv.k_tup); (focus lcg_sub))
  | ((with_reducible apply Rv.k_lst); (focus lcg_sub))
  | ((with_reducible apply Rv.k_list); (focus lcg_sub))
  | ((with_reducible apply Rv.k_append); (focus lcg_sub); (focus lcg_sub))
  | ((with_reducible apply Rv.k_cat); (focus lcg_sub); (focus lcg_sub); (focus lcg_sub))
  | ((with_reducible apply Rv.k_clear); (focus lcg_sub))
  | (with_reducible apply Rv.k_int1)
  | (with_reducible apply Rv.k_max2)
  | (with_reducible apply Rv.k_min2)
  | (with_reducible apply Rv.k_str)
  | (with_reducible apply Rv.k_part)
  | (with_reducible apply Rv.r_M1)
  | (with_reducible apply Rv.r_dget)
  | (with_reducible apply Rv.r_din)
  | (with_reducible apply Rv.r_dnotin)
  | (with_reducible apply Rv.r_dget2)
  | (with_reducible apply Rv.r_sl)
  | (with_reducible apply Rv.r_nopart)
  | (with_reducible apply Rv.r_part)
  | (with_reducible apply Rv.r_for)
  | (with_reducible apply Rv.r_lc)
  | (with_reducible apply Rv.r_yes)
  | (with_reducible apply Rv.r_iList)
  | (with_reducible apply Rv.r_iRng1)
  | (with_reducible apply Rv.r_iRng2)
  | (with_reducible apply Rv.r_iZip)
  | (with_reducible apply Rv.r_iStr)
  | (with_reducible apply Rv.r_iKeys)
  | (with_reducible apply Rv.r_lstRg)
  | ((with_reducible apply Rv.k_itl); (focus lcg_sub))
  | ((with_reducible apply Rv.k_zip); (focus lcg_sub); (focus lcg_sub))
  | ((with_reducible apply Rv.k_rng1); (focus omega))
  | ((with_reducible apply Rv.k_rng2); (focus omega))
  | (with_reducible apply Rv.k_its)
  | (with_reducible apply Rv.r_retN)
  | (with_reducible apply Rv.r_next)
  | (with_reducible apply Rv.r_setF)
  | (with_reducible apply Rv.r_dput)
  | (with_reducible apply Rv.r_setI)
  | (with_reducible apply Rv.r_raise)
  | (with_reducible apply Rv.r_wF)
  | (with_reducible apply Rv.k_ifTT)
  | (with_reducible apply Rv.k_ifFF)
  | (with_reducible apply Rv.k_ifNT)
  | (with_reducible apply Rv.k_ifNF)
  | (with_reducible apply Rv.k_andNT)
  | (with_reducible apply Rv.k_andNF)
  | (with_reducible apply Rv.k_orNT)
  | (with_reducible apply Rv.k_orNF)
  | (with_reducible apply Rv.k_andVNT)
  | (with_reducible apply Rv.k_andVNF)
  | (with_reducible apply Rv.k_orVNT)
  | (with_reducible apply Rv.k_orVNF)
  | (with_reducible apply Rv.k_isB_ii)
  | (with_reducible apply Rv.k_isB_ib)
  | (with_reducible apply Rv.k_isB_bi)
  | (with_reducible apply Rv.k_isB_bb)
  | (with_reducible apply Rv.k_isB_ni)
  | (with_reducible apply Rv.k_isB_ss)
  | ((with_reducible apply Rv.k_isB_ll); (focus lcg_sub))
  | ((with_reducible apply Rv.k_isB_tt); (focus lcg_sub))
  | (with_reducible apply Rv.r_mk)
  | (with_reducible apply Rv.r_rg1)
  | (with_reducible apply Rv.k_rg1))
namespace Rv
open PySem L2
/-! ### the laws' common helpers -/
def cell (s : List Int) (k : Int) : Int := s.getD k.toNat 0
theorem at_int {ns : List Int} {k : Nat} (h : k < ns.length) : atI (ns.map V.int) (k : Int) = some (.int (ns.getD k 0)) := by
  refine atI_nat ?_
  rw [List.getElem?_map, List.getD_eq_getElem?_getD]
  have : ns[k]? = some ns[k] := by simp [h]
  rw [this]
  rfl
theorem at_nV {ns : List Nat} {k : Nat} (h : k < ns.length) : atI (ns.map nV) (k : Int) = some (nV (ns.getD k 0)) := by
  refine atI_nat ?_
  rw [List.getElem?_map, List.getD_eq_getElem?_getD]
  have : ns[k]? = some ns[k] := by simp [h]
  rw [this]
  rfl
theorem ixN_at {n j : Nat} (h : j < n) : ixN n (j : Int) = some j := by
  unfold ixN
  rw [if_pos (by omega), if_pos (by omega), Int.toNat_natCast]
theorem ixN_0 {n : Nat} (h : 0 < n) : ixN n 0 = some 0 := ixN_at (j := 0) h
theorem ixN_last {n : Nat} (h : 0 < n) : ixN n (-1) = some (n - 1) := by
  unfold ixN
  rw [if_neg (by omega), if_pos (by omega)]
  congr 1
  omega
def sp_l_cell_at (c : Cs) : Sp := fun vs H Q E => ∃ (a : Addr) (ns : List Int) (k : Int), vs = [.ref a, .int k] ∧ SqL c.K H a (ns.map V.int) ∧ 0 ≤ k ∧ Q (.int (cell ns k)) H
def sp_l_whole (c : Cs) : Sp := fun vs H Q E => (∃ n, vs = [.int n] ∧ Q (.bl true) H)
def sp_l_same (c : Cs) : Sp := fun vs H Q E => ∃ (a b : Addr) (ns ms : List Int), vs = [.ref a, .ref b] ∧ H a = some (.lst (ns.map V.int)) ∧ SqL c.K H b (ms.map V.int) ∧ ms.length ≤ 1000 ∧ Q (.bl (decide (ns = ms))) H
/-- the points below, read off the script -/
def belM (s : List Int) (st : Int) (n : Nat) : List Nat := (List.range (n - 1)).map fun (i : Nat) => (cell s (st + (1 + (i : Int))) % (1 + (i : Int))).toNat
theorem belM_len (s : List Int) (st : Int) (n : Nat) : (belM s st n).length = n - 1 := by
  unfold belM
  rw [List.length_map, List.length_range]
theorem belM_riv (s : List Int) (st : Int) {n : Nat} (h : n ≤ 40) : Riv (belM s st n) := by
  refine ⟨by rw [belM_len]; omega, fun i hi => ?_⟩
  rw [belM_len] at hi
  unfold belM
  rw [List.getD_eq_getElem?_getD, List.getElem?_map, List.getElem?_range hi]
  show (cell s (st + (1 + (i : Int))) % (1 + (i : Int))).toNat ≤ i
  have h1 := Int.emod_lt_of_pos (cell s (st + (1 + (i : Int)))) (show (0 : Int) < 1 + (i : Int) by omega)
  omega
def sp_l_below (c : Cs) : Sp := fun vs H Q E => ∃ (a : Addr) (ns : List Int) (st n : Int), vs = [.ref a, .int st, .int n] ∧ SqL c.K H a (ns.map V.int) ∧ 0 ≤ st ∧ 1 ≤ n ∧ n ≤ 1000 ∧
  ∀ p H', H p = none → Ext H H' → H' p = some (.lst (belV (belM ns st n.toNat))) → Q (.ref p) H'
def sp_l_way (c : Cs) : Sp := fun vs H Q E => ∃ b B p, vs = [.ref b, nV p] ∧ SqL c.K H b (belV B) ∧ Riv B ∧ p ≤ B.length ∧
  ∀ a H', H a = none → Ext H H' → H' a = some (.lst ((wayM B p).map nV)) → Q (.ref a) H'
-- l_cell_at: 0 script 1 k
def t_l_cell_at (c : Cs) (E : XK) : TS :=
  (tSeq (tIfS (tTest (tOp rLtI (tVar 1) (tCB (rLenS c.K) (tCons (tVar 0) tNil)))) (tRet (tOp (rIxL c.K) (tVar 0) (tVar 1))) tNext)
  (tRet (tC (.int 0))))
-- l_whole: 0 found
def t_l_whole (c : Cs) (E : XK) : TS :=
  (tRet (tAndV (tCB (rIsB c.K "int") (tCons (tVar 0) (tCons (tC (.ty "int")) tNil))) (tNotV (tCB (rIsB c.K "bool") (tCons (tVar 0) (tCons (tC (.ty "bool")) tNil))))))
-- l_same: 0 found 1 due 2 k
def t_l_same (c : Cs) (E : XK) : TS :=
  (tSeq (tIfS (tOr (tNot (tB (tCB (rIsB c.K "list") (tCons (tVar 0) (tCons (tC (.ty "list")) tNil))))) (tTest (tOp rNe (tCB (rLenS c.K) (tCons (tVar 0) tNil)) (tCB (rLenS c.K) (tCons (tVar 1) tNil))))) (tRet (tC (.bl false))) tNext)
  (tSeq (tFor (iRng1 (tCons (tCB (rLenS c.K) (tCons (tVar 1) tNil)) tNil)) (gName 2)
  (tIfS (tOr (tNot (tB (tFn (sp_l_whole c) (wF E) (tCons (tOp (rIxL c.K) (tVar 0) (tVar 2)) tNil)))) (tTest (tOp rNe (tOp (rIxL c.K) (tVar 0) (tVar 2)) (tOp (rIxL c.K) (tVar 1) (tVar 2))))) (tRet (tC (.bl false))) tNext))
  (tRet (tC (.bl true)))))
-- l_below: 0 script 1 start 2 size 3 k
def t_l_below (c : Cs) (E : XK) : TS :=
  (tRet (tOp rCat (tLst (tCons (tC .non) tNil)) (tLc (iRng2 (tCons (tC (.int 1)) (tCons (tVar 2) tNil))) (gName 3) tYes (tOp rModI (tFn (sp_l_cell_at c) wN (tCons (tVar 0) (tCons (tOp rAddI (tVar 1) (tVar 3)) tNil))) (tVar 3)) [3])))
-- l_way: 0 below 1 point 2 found
def t_l_way (c : Cs) (E : XK) : TS :=
  (tSeq (tAsg (tLst tNil) (gName 2))
  (tSeq (tWhile (tTest (tOp rNotNon (tVar 1) (tC .non))) (tSeq (tDrop (tBM c.K "list" rAppend (tVar 2) (tCons (tVar 1) tNil)))
  (tAsg (tOp (rIxL c.K) (tVar 0) (tVar 1)) (gName 1))))
  (tRet (tVar 2))))
section
variable {c : Cs}
theorem pure_l_cell_at (vs : List V) (H : Hp) (Q : VK) (E : XK) (h : sp_l_cell_at c vs H Q E) : t_l_cell_at c E { nx := fun _ H' => Q .non H', rt := Q } (start ["script", "k"] vs) H := by
  obtain ⟨a, ns, k, rfl, hs, hk, q⟩ := h
  obtain ⟨n, rfl⟩ := Int.eq_ofNat_of_zero_le hk
  unfold t_l_cell_at
  repeat lcg_off
  rw [List.length_map]
  refine k_ifD (fun h1 => ?_) (fun h1 => ?_)
  · repeat lcg_off
    exact k_ixL hs (at_int (by omega)) q
  · repeat lcg_off
    have e : cell ns (n : Int) = 0 := by
      unfold cell
      rw [Int.toNat_natCast, List.getD_eq_getElem?_getD, List.getElem?_eq_none (by omega)]
      rfl
    rw [e] at q
    exact q
theorem pure_l_whole (vs : List V) (H : Hp) (Q : VK) (E : XK) (h : sp_l_whole c vs H Q E) : t_l_whole c E { nx := fun _ H' => Q .non H', rt := Q } (start ["found"] vs) H := by
  obtain ⟨n, rfl, q⟩ := h
  unfold t_l_whole
  repeat lcg_off
  exact q
theorem pure_l_same (vs : List V) (H : Hp) (Q : VK) (E : XK) (h : sp_l_same c vs H Q E) : t_l_same c E { nx := fun _ H' => Q .non H', rt := Q } (start ["found", "due", "k"] vs) H := by
  obtain ⟨a, b, ns, ms, rfl, ha, hb, hl, q⟩ := h
  unfold t_l_same
  repeat lcg_off
  rw [List.length_map, List.length_map]
  refine k_ifN (fun h1 => ?_) (fun h1 => ?_)
  · repeat lcg_off
    rw [decide_eq_false (fun e => h1 (by rw [e]))] at q
    exact q
  · repeat lcg_off
    rw [List.length_map]
    refine k_rng1 (by omega) ?_
    refine k_forR (fun i σ H' => (∃ v, σ = [some (.ref a), some (.ref b), v]) ∧ H' = H ∧ ∀ j, j < i → ns[j]? = ms[j]?) ⟨⟨_, rfl⟩, rfl, fun j hj => absurd hj (Nat.not_lt_zero _)⟩ ?_ ?_
    · rintro i σ H' hi ⟨⟨v, rfl⟩, rfl, hj⟩
      rw [Int.toNat_natCast] at hi
      rw [Int.zero_add]
      show tIfS _ _ _ _ [some (.ref a), some (.ref b), some (.int (i : Int))] _
      repeat lcg_off
      refine k_ixL (by lcg_sub) (at_int (by omega)) ?_
      repeat lcg_off
      refine ⟨_, rfl, ?_⟩
      repeat lcg_off
      refine k_ixL (by lcg_sub) (at_int (by omega)) ?_
      repeat lcg_off
      refine k_ixL (by lcg_sub) (at_int (by omega)) ?_
      repeat lcg_off
      have g1 : ns[i]? = some (ns.getD i 0) := by
        rw [List.getD_eq_getElem?_getD]
        simp [show i < ns.length by omega]
      have g2 : ms[i]? = some (ms.getD i 0) := by
        rw [List.getD_eq_getElem?_getD]
        simp [show i < ms.length by omega]
      refine k_ifN (fun h2 => ?_) (fun h2 => ?_)
      · repeat lcg_off
        rw [decide_eq_false (fun e => h2 (by rw [e]))] at q
        exact q
      · repeat lcg_off
        refine ⟨⟨_, rfl⟩, rfl, fun j hj' => ?_⟩
        by_cases ej : j = i
        · subst ej
          rw [g1, g2, h2]
        · exact hj j (by omega)
    · rintro σ H' ⟨⟨v, rfl⟩, rfl, hj⟩
      repeat lcg_off
      have e : ns = ms := List.ext_getElem? fun j => by
        by_cases hj' : j < ms.length
        · exact hj j (by omega)
        · rw [List.getElem?_eq_none (by omega), List.getElem?_eq_none (by omega)]
      rw [decide_eq_true e] at q
      exact q
theorem pure_l_below (vs : List V) (H : Hp) (Q : VK) (E : XK) (h : sp_l_below c vs H Q E) : t_l_below c E { nx := fun _ H' => Q .non H', rt := Q } (start ["script", "start", "size", "k"] vs) H := by
  obtain ⟨a, ns, st, n, rfl, hs, h0, h1, h2, q⟩ := h
  unfold t_l_below
  repeat lcg_off
  intro p H1 hp e1 h3
  repeat lcg_off
  refine k_lcR (fun _ => true) (fun i => nV (cell ns (st + (1 + (i : Int))) % (1 + (i : Int))).toNat) (fun x => rfl) (by omega) (fun i hi H2 ac QB q => ?_) (fun i hi hp H2 ac Q1 q => ?_) (fun D H2 hD e hd => ?_)
  · repeat lcg_off
    exact q H2 (Ext.refl _)
  · repeat lcg_off
    refine ⟨a, ns, _, rfl, by lcg_sub, by omega, ?_⟩
    repeat lcg_off
    have e : ((cell ns (st + (1 + (i : Int))) % (1 + (i : Int))).toNat : Int) = cell ns (st + (1 + (i : Int))) % (1 + (i : Int)) := Int.toNat_of_nonneg (Int.emod_nonneg _ (by omega))
    have q' := q H2 (Ext.refl _)
    dsimp only [nV] at q'
    rw [e] at q'
    exact q'
  · have hlen : (([V.non] : List V).length + (((List.range (n - 1).toNat).filter fun _ => true).map fun (i : Nat) => nV (cell ns (st + (1 + (i : Int))) % (1 + (i : Int))).toNat).length) ≤ 100000 := by
      rw [filter_yes, List.length_map, List.length_range, List.length_cons, List.length_nil]
      omega
    refine k_cat (by lcg_sub) (by lcg_sub) (sz_le hlen) fun p2 H3 hp2 e2 h4 => ?_
    refine q p2 H3 (e1.free (e.free hp2)) ((e1.trans e).trans e2) ?_
    rw [h4, filter_yes]
    unfold belV belM
    have e3 : (n - 1).toNat = n.toNat - 1 := by omega
    rw [List.map_map, e3]
    rfl
theorem pure_l_way (vs : List V) (H : Hp) (Q : VK) (E : XK) (h : sp_l_way c vs H Q E) : t_l_way c E { nx := fun _ H' => Q .non H', rt := Q } (start ["below", "point", "found"] vs) H := by
  obtain ⟨b, B, p, rfl, hb, hB, hp, k⟩ := h
  unfold t_l_way
  repeat lcg_off
  intro a H1 ha e1 h1
  repeat lcg_off
  refine r_while (fun m σ H' => ∃ pre o, σ = [some (.ref b), some (oN o), some (.ref a)] ∧ Ac H H' ∧ H' a = some (.lst (List.map nV pre)) ∧ pre ++ restM B o = wayM B p ∧ (∀ q, o = some q → q ≤ B.length) ∧ m = sizeO o) (m0 := p + 1) ?_ ?_ ?_
  · exact ⟨[], some p, rfl, e1.ac, h1, rfl, fun q e => by cases e; omega, rfl⟩
  · rintro m σ H' ⟨pre, o, rfl, ac, hp', hw, ho, rfl⟩
    cases o with
    | none =>
      show tTest _ [some (.ref b), some .non, some (.ref a)] _ _
      repeat lcg_off
      have : pre = wayM B p := by rw [← hw]; exact (List.append_nil _).symm
      subst this
      exact k a H' ha ac.ext hp'
    | some q =>
      have hq := ho q rfl
      have hlen : pre.length ≤ 1000 := by
        have h1 := congrArg List.length hw
        rw [List.length_append] at h1
        have := wayM_len (B := B) p
        have := hB.few
        omega
      show tTest _ [some (.ref b), some (.int (q : Int)), some (.ref a)] _ _
      repeat lcg_off
      intro H2 b2 h2
      repeat lcg_off
      refine k_ixL ((ac.but b2 (by lcg_sub)).sq hb) (belV_at hq) ?_
      refine ⟨sizeO (nextM B q), ?_, pre ++ [q], nextM B q, ?_, ac.but b2 (by lcg_sub), ?_, ?_, fun m e => (next_le hB hq e).2, rfl⟩
      · cases e : nextM B q with
        | none => exact Nat.succ_pos _
        | some m =>
          have := (next_le hB hq e).1
          show m + 1 < q + 1
          omega
      · rw [oN_next]
        rfl
      · rw [h2, List.map_append]
        rfl
      · rw [← hw, List.append_assoc]
        show pre ++ (q :: restM B (nextM B q)) = pre ++ wayM B q
        rw [← rest_next hB hq]
  · intro σ' H' Q1 Q2 hQ h
    exact h.imp fun v hv => ⟨hv.1, ⟨hv.2.1, hv.2.2.imp fun b hb => ⟨hb.1, hQ _ _ hb.2⟩⟩⟩
end
end Rv

end
section
local macro_rules | `(tactic| lcg_src) => `(tactic| first
  | assumption
  | (with_reducible exact Rv.lk_here)
  | (refine (Rv.lk_past (by decide +kernel)).trans ?_; lcg_src)
  | (with_unfolding_all exact rfl))
local macro_rules | `(tactic| lcg_sub) => `(tactic| first
  | assumption
  | ((with_reducible apply Rv.Ext.hl); (focus assumption); (focus lcg_sub))
  | ((with_reducible apply Rv.But.hl); (focus assumption); (focus lcg_sub); (focus lcg_sub))
  | ((with_reducible apply Rv.Ac.hl); (focus assumption); (focus lcg_sub))
  | ((with_reducible apply L2.SqL.of); (focus assumption))
  | ((with_reducible apply Rv.Ext.sq); (focus assumption); (focus lcg_sub))
  | ((with_reducible apply Rv.But.sq); (focus assumption); (focus lcg_sub); (focus lcg_sub))
  | ((with_reducible apply Rv.Ac.sq); (focus assumption); (focus lcg_sub))
  | ((with_reducible apply L2.SqT.of); (focus assumption))
  | ((with_reducible apply Rv.Ext.st); (focus assumption); (focus lcg_sub))
  | ((with_reducible apply Rv.But.st); (focus assumption); (focus lcg_sub); (focus lcg_sub))
  | ((with_reducible apply Rv.Ac.st); (focus assumption); (focus lcg_sub))
  | ((with_reducible apply L2.Rd.of); (focus lcg_sub))
  | ((with_reducible apply Rv.RivAt.ext); (focus assumption); (focus lcg_sub))
  | ((with_reducible apply Rv.RivAt.but); (focus assumption); (focus lcg_sub); (focus lcg_sub); (focus lcg_sub))
  | ((with_reducible apply Rv.RivAt.ac); (focus assumption); (focus lcg_sub))
  | (with_reducible apply Rv.nin_nil)
  | ((with_reducible apply Rv.nin_cons); (focus lcg_sub); (focus lcg_sub))
  | (with_reducible apply Rv.frs_nil)
  | ((with_reducible apply Rv.frs_cons); (focus lcg_sub); (focus lcg_sub))
  | ((with_reducible apply Ne.symm); (focus assumption))
  | ((with_reducible apply Rv.ne_nf); (focus assumption); (focus lcg_sub))
  | ((with_reducible apply Rv.ne_fn); (focus assumption); (focus lcg_sub))
  | ((with_reducible apply Rv.ne_k1); (focus assumption); (focus lcg_sub); (focus (intro z; cases z)))
  | ((with_reducible apply Rv.ne_k2); (focus assumption); (focus lcg_sub); (focus (intro z; cases z)))
  | ((with_reducible apply Rv.free2); (focus assumption); (focus lcg_sub))
  | (with_reducible apply Rv.Ac.refl)
  | ((with_reducible apply Rv.Ac.step'); (focus assumption); (focus lcg_sub))
  | ((with_reducible apply Rv.Ac.but'); (focus assumption); (focus lcg_sub); (focus lcg_sub))
  | (with_reducible apply Rv.Ext.refl)
  | ((with_reducible apply Rv.Ac.ext); (focus lcg_sub))
  | ((with_reducible apply Rv.sz_le); first | omega | (simp only [List.length_cons, List.length_nil, List.length_map, List.length_append]; omega))
  | ((with_reducible apply Rv.sz_lt); first | omega | (simp only [List.length_cons, List.length_nil, List.length_map, List.length_append]; omega)))
local macro_rules | `(tactic| lcg_off) => `(tactic| first
  | (with_reducible apply Rv.r_seq)
  | (with_reducible apply Rv.r_asg)
  | (with_reducible apply Rv.r_op)
  | ((with_reducible apply Rv.r_var); (focus with_unfolding_all rfl))
  | (with_reducible apply Rv.r_c)
  | (with_reducible apply Rv.r_if)
  | (with_reducible apply Rv.r_test)
  | (with_reducible apply Rv.r_fld)
  | (with_reducible apply Rv.r_cons)
  | (with_reducible apply Rv.r_nil)
  | (with_reducible apply Rv.r_ret)
  | (with_reducible apply Rv.r_drop)
  | (with_reducible apply Rv.r_meth)
  | (with_reducible apply Rv.r_fn)
  | (with_reducible apply Rv.r_CB)
  | (with_reducible apply Rv.r_BM)
  | (with_reducible apply Rv.r_BM0)
  | (with_reducible apply Rv.k_bl)
  | (with_reducible apply Rv.r_not)
  | (with_reducible apply Rv.r_and)
  | (with_reducible apply Rv.r_or)
  | (with_reducible apply Rv.k_andT)
  | (with_reducible apply Rv.k_andF)
  | (with_reducible apply Rv.k_orT)
  | (with_reducible apply Rv.k_orF)
  | (with_reducible apply Rv.r_tB)
  | (with_reducible apply Rv.r_chain)
  | (with_reducible apply Rv.r_un)
  | (with_reducible apply Rv.r_tup)
  | (with_reducible apply Rv.r_lst)
  | (with_reducible apply Rv.r_andV)
  | (with_reducible apply Rv.r_orV)
  | (with_reducible apply Rv.r_notV)
  | (with_reducible apply Rv.r_ifE)
  | (with_reducible apply Rv.k_notV)
  | (with_reducible apply Rv.k_andVT)
  | (with_reducible apply Rv.k_andVF)
  | (with_reducible apply Rv.k_orVT)
  | (with_reducible apply Rv.k_orVF)
  | (with_reducible apply Rv.k_addI)
  | (with_reducible apply Rv.k_subI)
  | ((with_reducible apply Rv.k_mulI); (focus (unfold L2.CMul; omega)))
  | ((with_reducible apply Rv.k_divI); (focus (unfold L2.CDiv; omega)))
  | ((with_reducible apply Rv.k_modI); (focus omega))
  | ((with_reducible apply Rv.k_powI); (focus (unfold L2.CPow; decide)))
  | (with_reducible apply Rv.k_negI)
  | (with_reducible apply Rv.k_ltI)
  | (with_reducible apply Rv.k_leI)
  | (with_reducible apply Rv.k_gtI)
  | (with_reducible apply Rv.k_geI)
  | (with_reducible apply Rv.k_eqI)
  | (with_reducible apply Rv.k_neI)
  | (with_reducible apply Rv.k_eqS)
  | (with_reducible apply Rv.k_neS)
  | (with_reducible apply Rv.k_isNN)
  | (with_reducible apply Rv.k_isNI)
  | (with_reducible apply Rv.k_isNR)
  | (with_reducible apply Rv.k_notNN)
  | (with_reducible apply Rv.k_notNI)
  | (with_reducible apply Rv.k_notNR)
  | ((with_reducible apply Rv.k_tyL); (focus lcg_sub))
  | ((with_reducible apply Rv.k_ixT); (focus lcg_sub); (focus with_unfolding_all rfl))
  | ((with_reducible apply Rv.k_ixL); (focus lcg_sub); (focus with_unfolding_all rfl))
  | ((with_reducible apply Rv.k_lenL); (focus lcg_sub))
  | ((with_reducible apply Rv.k_lenU); (focus lcg_sub))
  | ((with_reducible apply Rv.k_tup); (focus lcg_sub))
  | ((with_reducible apply Rv.k_lst); (focus lcg_sub))
  | ((with_reducible apply Rv.k_list); (focus lcg_sub))
  | ((with_reducible apply Rv.k_append); (focus lcg_sub); (focus lcg_sub))
  | ((with_reducible apply Rv.k_cat); (focus lcg_sub); (focus lcg_sub); (focus lcg_sub))
  | ((with_reducible apply Rv.k_clear); (focus lcg_sub))
  | (with_reducible apply Rv.k_int1)
  | (with_reducible apply Rv.k_max2)
  | (with_reducible apply Rv.k_min2)
  | (with_reducible apply Rv.k_str)
  | (with_reducible apply Rv.k_part)
  | (with_reducible apply Rv.r_M1)
  | (with_reducible apply Rv.r_dget)
  | (with_reducible apply Rv.r_din)
  | (with_reducible apply Rv.r_dnotin)
  | (with_reducible apply Rv.r_dget2)
  | (with_reducible apply Rv.r_sl)
  | (with_reducible apply Rv.r_nopart)
  | (with_reducible apply Rv.r_part)
  | (with_reducible apply Rv.r_for)
  | (with_reducible apply Rv.r_lc)
  | (with_reducible apply Rv.r_yes)
  | (with_reducible apply Rv.r_iList)
  | (with_reducible apply Rv.r_iRng1)
  | (with_reducible apply Rv.r_iRng2)
  | (with_reducible apply Rv.r_iZip)
  | (with_reducible apply Rv.r_iStr)
  | (with_reducible apply Rv.r_iKeys)
  | (with_reducible apply Rv.r_lstRg)
  | ((with_reducible apply Rv.k_itl); (focus lcg_sub))
  | ((with_reducible apply Rv.k_zip); (focus lcg_sub); (focus lcg_sub))
  | ((with_reducible apply Rv.k_rng1); (focus omega))
  | ((with_reducible apply Rv.k_rng2); (focus omega))
  | (with_reducible apply Rv.k_its)
  | (with_reducible apply Rv.r_retN)
  | (with_reducible apply Rv.r_next)
  | (with_reducible apply Rv.r_setF)
  | (with_reducible apply Rv.r_dput)
  | (with_reducible apply Rv.r_setI)
  | (with_reducible apply Rv.r_raise)
  | (with_reducible apply Rv.r_wF)
  | (with_reducible apply Rv.k_ifTT)
  | (with_reducible apply Rv.k_ifFF)
  | (with_reducible apply Rv.k_ifNT)
  | (with_reducible apply Rv.k_ifNF)
  | (with_reducible apply Rv.k_andNT)
  | (with_reducible apply Rv.k_andNF)
  | (with_reducible apply Rv.k_orNT)
  | (with_reducible apply Rv.k_orNF)
  | (with_reducible apply Rv.k_andVNT)
  | (with_reducible apply Rv.k_andVNF)
  | (with_reducible apply Rv.k_orVNT)
  | (with_reducible apply Rv.k_orVNF)
  | (with_reducible apply Rv.k_isB_ii)
  | (with_reducible apply Rv.k_isB_ib)
  | (with_reducible apply Rv.k_isB_bi)
  | (with_reducible apply Rv.k_isB_bb)
  | (with_reducible apply Rv.k_isB_ni)
  | (with_reducible apply Rv.k_isB_ss)
  | ((with_reducible apply Rv.k_isB_ll); (focus lcg_sub))
  | ((with_reducible apply Rv.k_isB_tt); (focus lcg_sub))
  | (with_reducible apply Rv.r_mk)
  | (with_reducible apply Rv.r_rg1)
  | (with_reducible apply Rv.k_rg1))
namespace Rv
open PySem L2
/-! ### data compared as a whole -/
def laid (d : PyData) (n : Nat) : Prop := d.canLay0 = true ∧ d.depth ≤ n
theorem laid_none : laid .none 0 := ⟨by simp only [PyData.canLay0], by simp only [PyData.depth]; exact Nat.le_refl _⟩
theorem laid_int (i : Int) : laid (.int i) 0 := ⟨by simp only [PyData.canLay0], by simp only [PyData.depth]; exact Nat.le_refl _⟩
theorem laid_mono {d : PyData} {n m : Nat} (h : laid d n) (hm : n ≤ m) : laid d m := ⟨h.1, Nat.le_trans h.2 hm⟩
theorem laid_all {n : Nat} : ∀ {ds : List PyData}, (∀ d ∈ ds, laid d n) → PyData.canLayAll0 ds = true ∧ PyData.depthAll ds ≤ n
  | [], _ => ⟨by simp only [PyData.canLayAll0], by simp only [PyData.depthAll]; exact Nat.zero_le _⟩
  | d :: ds, h => by
    have h1 := h d List.mem_cons_self
    have h2 := laid_all (n := n) (ds := ds) fun e he => h e (List.mem_cons_of_mem _ he)
    refine ⟨?_, ?_⟩
    · simp only [PyData.canLayAll0, h1.1, h2.1, Bool.and_self]
    · simp only [PyData.depthAll]
      exact Nat.max_le.mpr ⟨h1.2, h2.2⟩
theorem laid_list {n : Nat} {ds : List PyData} (h : ∀ d ∈ ds, laid d n) : laid (.list ds) (n + 1) := by
  have := laid_all h
  exact ⟨by simp only [PyData.canLay0, this.1], by simp only [PyData.depth]; exact Nat.succ_le_succ this.2⟩
theorem laid_tup {n : Nat} {ds : List PyData} (h : ∀ d ∈ ds, laid d n) : laid (.tuple ds) (n + 1) := by
  have := laid_all h
  exact ⟨by simp only [PyData.canLay0, this.1], by simp only [PyData.depth]; exact Nat.succ_le_succ this.2⟩
theorem laid_shaped {n : Nat} {d : PyData} (h : laid d n) (hn : n ≤ 64) : SeqAt.shaped d = true := by
  unfold SeqAt.shaped
  rw [h.1, decide_eq_true (Nat.le_trans h.2 hn)]
  rfl
/-- a flat value's data -/
def dV : V → PyData
  | .bl b => .bool b
  | .int i => .int i
  | .str x => .str x
  | _ => .none
section
variable {K : PySem.W.Frag} {H : Hp} {Q : VK}
theorem dp_flat {v : V} (h : flatV v = true) : Dp K H v (dV v) := by
  cases v with
  | non => exact .non
  | bl b => exact .bl b
  | int i => exact .int i
  | str x => exact .str x
  | _ => cases h
theorem dpAll_flat : ∀ {xs : List V}, xs.all flatV = true → DpAll K H xs (xs.map dV)
  | [], _ => .nil
  | v :: xs, h => by
    rw [List.all_cons, Bool.and_eq_true] at h
    exact .cons (dp_flat h.1) (dpAll_flat h.2)
theorem dp_listF {a : Addr} {xs : List V} (h : SqL K H a xs) (hf : xs.all flatV = true) : Dp K H (.ref a) (.list (xs.map dV)) := .lst h (dpAll_flat hf)
theorem k_neDs {x y : V} {d : PyData} {n : Nat} (hx : Dp K H x d) (hy : Dp K H y d) (hl : laid d n) (hn : n ≤ 64) (q : Q (.bl false) H) : rNeD K x y H Q :=
  ⟨d, d, hx, hy, laid_shaped hl hn, laid_shaped hl hn, by rw [SeqAt.eqv_refl d hl.1]; exact q⟩
theorem k_eqDs {x y : V} {d : PyData} {n : Nat} (hx : Dp K H x d) (hy : Dp K H y d) (hl : laid d n) (hn : n ≤ 64) (q : Q (.bl true) H) : rEqD K x y H Q :=
  ⟨d, d, hx, hy, laid_shaped hl hn, laid_shaped hl hn, by rw [SeqAt.eqv_refl d hl.1]; exact q⟩
end
theorem all_flat_bel (B : List Nat) : (belV B).all flatV = true := by
  unfold belV
  rw [List.all_cons]
  show (true && _) = true
  rw [all_flat_nV]
  rfl
theorem laid_bel (B : List Nat) : laid (.list ((belV B).map dV)) 1 := laid_list fun d hd => by
  obtain ⟨v, hv, rfl⟩ := List.mem_map.mp hd
  rcases List.mem_cons.mp hv with rfl | hv
  · exact laid_none
  · obtain ⟨n, _, rfl⟩ := List.mem_map.mp hv
    exact laid_int _
theorem laid_ints (xs : List Int) : laid (.list ((xs.map V.int).map dV)) 1 := laid_list fun d hd => by
  obtain ⟨v, hv, rfl⟩ := List.mem_map.mp hd
  obtain ⟨n, _, rfl⟩ := List.mem_map.mp hv
  exact laid_int _
theorem rgV_nat (n : Nat) : rgV 0 (n : Int) = (List.range n).map nV := by
  unfold rgV
  have e : ((n : Int) - 0).toNat = n := by omega
  rw [e]
  refine List.map_congr_left fun i _ => ?_
  rw [Int.zero_add]
/-- a law: a list of at most 63 ints is handed in, True comes out -/
def sp_lawK (K : PySem.W.Frag) : Sp := fun vs H Q E => ∃ (a : Addr) (ns : List Int), vs = [.ref a] ∧ SqL K H a (ns.map V.int) ∧ ns.length ≤ 63 ∧ ∀ H', Q (.bl true) H'
def sp_law (c : Cs) : Sp := sp_lawK c.K
/-! ### more steps -/
section
variable {K : PySem.W.Frag} {σ : L2.St} {H : Hp} {Q : VK} {D : Ends} {te : TE} {b : Bool}
/-- if t: x = e, told by what x has behind it -/
theorem k_ifset {i : Nat} {v0 : V} (P : V → Prop) (e0 : σ.set i (some v0) = σ) (h1 : b = true → ∃ v, P v ∧ ∀ Q : VK, Q v H → te σ H Q) (h2 : b = false → P v0) (k : ∀ v, P v → D.nx (σ.set i (some v)) H) : kIf (tAsg te (gName i)) tNext D σ b H := by
  cases b with
  | true =>
    obtain ⟨v, hv, q⟩ := h1 rfl
    exact q _ (k v hv)
  | false =>
    have := k v0 (h2 rfl)
    rw [e0] at this
    exact this
def kRg1 (R : Int → Int → Hp → Prop) : VK := fun x H1 => ∃ n, x = .int n ∧ R 0 n H1
theorem r_rg1 {ta : TE} {R : Int → Int → Hp → Prop} (h : ta σ H (kRg1 R)) : tRg1 ta σ H R := h
theorem k_rg1 {n : Int} {R : Int → Int → Hp → Prop} (h : R 0 n H) : kRg1 R (.int n) H := ⟨n, rfl, h⟩
theorem k_rgl {a b : Int} (h : RgOk a b) (q : ∀ p H', H p = none → Ext H H' → H' p = some (.lst (rgV a b)) → Q (.ref p) H') : kRgl Q a b H := ⟨h, fun p hp => q p _ hp (ext_new hp) upd_same⟩
def kMk (C : Addr) (sp : Sp) (W : WX) (σ : L2.St) (Q : VK) : List V → Hp → Prop := fun vs H1 => ∀ x dx, H1 x = none → H1 dx = none → dx ≠ x → sp (.ref x :: vs) (upd (upd H1 dx (.own x)) x (.ins C dx [])) (fun v H2 => v = .non ∧ Q (.ref x) H2) (WE W σ)
theorem r_mk {C : Addr} {sp : Sp} {W : WX} {t : TA} (h : t σ H (kMk C sp W σ Q)) : tMakeS C sp W t σ H Q := h
theorem k_mk {C : Addr} {sp : Sp} {W : WX} {vs : List V} (h : ∀ x dx H2, H x = none → Ext H H2 → H2 x = some (.ins C dx []) → sp (.ref x :: vs) H2 (fun v H3 => v = .non ∧ Q (.ref x) H3) (WE W σ)) : kMk C sp W σ Q vs H := by
  intro x dx hx hdx ne
  refine h x dx _ hx ⟨fun a o e => ?_⟩ upd_same
  rw [upd_ne (ne_of_none e hx), upd_ne (ne_of_none e hdx)]
  exact e
/-- River(below), a list that tells one -/
theorem k_mkRiver {c : Cs} {W : WX} {b : Addr} {B : List Nat} (hb : SqL c.K H b (belV B)) (hR : Riv B) (k : ∀ x l H', H x = none → H l = none → x ≠ l → Ext H H' → RivAt c H' x l B → Q (.ref x) H') : kMk c.river (sp_River_init c) W σ Q [.ref b] H := by
  refine k_mk fun x dx H3 hx e3 h3 => ?_
  have e : (none :: B.map fun (n : Nat) => some (n : Int)).map oV = belV B := by
    unfold belV
    rw [List.map_cons, List.map_map]
    rfl
  have hf := hR.few
  refine ⟨x, dx, b, none :: B.map fun (n : Nat) => some (n : Int), rfl, h3, ?_, ?_, fun B' t l H4 hl b4 A => ⟨rfl, ?_⟩, fun hn => absurd ⟨e, hR⟩ (hn B)⟩
  · rw [e]
    exact e3.sq hb
  · rw [List.length_cons, List.length_map]
    omega
  · have e' : B' = B := by
      have := t.1
      rw [e] at this
      have h1 := rows_of (List.cons.inj t.1).2
      have h2 : ∀ (X Y : List Nat), (X.map fun (n : Nat) => some (n : Int)) = (Y.map fun (n : Nat) => some (n : Int)) → X = Y := by
        intro X
        induction X with
        | nil => intro Y h; cases Y with
          | nil => rfl
          | cons y Y => cases h
        | cons x X ih => intro Y h; cases Y with
          | nil => cases h
          | cons y Y =>
            have hx : (x : Int) = (y : Int) := Option.some.inj (List.cons.inj h).1
            have : x = y := by omega
            rw [this, ih Y (List.cons.inj h).2]
      exact (h2 _ _ h1).symm
    subst e'
    refine k x l H4 hx (e3.free hl) (ne_of_none h3 hl) (e3.ac.but b4 (frs_cons hx frs_nil)).ext A
end
end Rv

end
section
local macro_rules | `(tactic| lcg_src) => `(tactic| first
  | assumption
  | (with_reducible exact Rv.lk_here)
  | (refine (Rv.lk_past (by decide +kernel)).trans ?_; lcg_src)
  | (with_unfolding_all exact rfl))
local macro_rules | `(tactic| lcg_sub) => `(tactic| first
  | assumption
  | ((with_reducible apply Rv.Ext.hl); (focus assumption); (focus lcg_sub))
  | ((with_reducible apply Rv.But.hl); (focus assumption); (focus lcg_sub); (focus lcg_sub))
  | ((with_reducible apply Rv.Ac.hl); (focus assumption); (focus lcg_sub))
  | ((with_reducible apply L2.SqL.of); (focus assumption))
  | ((with_reducible apply Rv.Ext.sq); (focus assumption); (focus lcg_sub))
  | ((with_reducible apply Rv.But.sq); (focus assumption); (focus lcg_sub); (focus lcg_sub))
  | ((with_reducible apply Rv.Ac.sq); (focus assumption); (focus lcg_sub))
  | ((with_reducible apply L2.SqT.of); (focus assumption))
  | ((with_reducible apply Rv.Ext.st); (focus assumption); (focus lcg_sub))
  | ((with_reducible apply Rv.But.st); (focus assumption); (focus lcg_sub); (focus lcg_sub))
  | ((with_reducible apply Rv.Ac.st); (focus assumption); (focus lcg_sub))
  | ((with_reducible apply L2.Rd.of); (focus lcg_sub))
  | ((with_reducible apply Rv.RivAt.ext); (focus assumption); (focus lcg_sub))
  | ((with_reducible apply Rv.RivAt.but); (focus assumption); (focus lcg_sub); (focus lcg_sub); (focus lcg_sub))
  | ((with_reducible apply Rv.RivAt.ac); (focus assumption); (focus lcg_sub))
  | (with_reducible apply Rv.nin_nil)
  | ((with_reducible apply Rv.nin_cons); (focus lcg_sub); (focus lcg_sub))
  | (with_reducible apply Rv.frs_nil)
  | ((with_reducible apply Rv.frs_cons); (focus lcg_sub); (focus lcg_sub))
  | ((with_reducible apply Ne.symm); (focus assumption))
  | ((with_reducible apply Rv.ne_nf); (focus assumption); (focus lcg_sub))
  | ((with_reducible apply Rv.ne_fn); (focus assumption); (focus lcg_sub))
  | ((with_reducible apply Rv.ne_k1); (focus assumption); (focus lcg_sub); (focus (intro z; cases z)))
  | ((with_reducible apply Rv.ne_k2); (focus assumption); (focus lcg_sub); (focus (intro z; cases z)))
  | ((with_reducible apply Rv.free2); (focus assumption); (focus lcg_sub))
  | (with_reducible apply Rv.Ac.refl)
  | ((with_reducible apply Rv.Ac.step'); (focus assumption); (focus lcg_sub))
  | ((with_reducible apply Rv.Ac.but'); (focus assumption); (focus lcg_sub); (focus lcg_sub))
  | (with_reducible apply Rv.Ext.refl)
  | ((with_reducible apply Rv.Ac.ext); (focus lcg_sub))
  | ((with_reducible apply Rv.sz_le); first | omega | (simp only [List.length_cons, List.length_nil, List.length_map, List.length_append]; omega))
  | ((with_reducible apply Rv.sz_lt); first | omega | (simp only [List.length_cons, List.length_nil, List.length_map, List.length_append]; omega)))
local macro_rules | `(tactic| lcg_off) => `(tactic| first
  | (with_reducible apply Rv.r_seq)
  | (with_reducible apply Rv.r_asg)
  | (with_reducible apply Rv.r_op)
  | ((with_reducible apply Rv.r_var); (focus with_unfolding_all rfl))
  | (with_reducible apply Rv.r_c)
  | (with_reducible apply Rv.r_if)
  | (with_reducible apply Rv.r_test)
  | (with_reducible apply Rv.r_fld)
  | (with_reducible apply Rv.r_cons)
  | (with_reducible apply Rv.r_nil)
  | (with_reducible apply Rv.r_ret)
  | (with_reducible apply Rv.r_drop)
  | (with_reducible apply Rv.r_meth)
  | (with_reducible apply Rv.r_fn)
  | (with_reducible apply Rv.r_CB)
  | (with_reducible apply Rv.r_BM)
  | (with_reducible apply Rv.r_BM0)
  | (with_reducible apply Rv.k_bl)
  | (with_reducible apply Rv.r_not)
  | (with_reducible apply Rv.r_and)
  | (with_reducible apply Rv.r_or)
  | (with_reducible apply Rv.k_andT)
  | (with_reducible apply Rv.k_andF)
  | (with_reducible apply Rv.k_orT)
  | (with_reducible apply Rv.k_orF)
  | (with_reducible apply Rv.r_tB)
  | (with_reducible apply Rv.r_chain)
  | (with_reducible apply Rv.r_un)
  | (with_reducible apply Rv.r_tup)
  | (with_reducible apply Rv.r_lst)
  | (with_reducible apply Rv.r_andV)
  | (with_reducible apply Rv.r_orV)
  | (with_reducible apply Rv.r_notV)
  | (with_reducible apply Rv.r_ifE)
  | (with_reducible apply Rv.k_notV)
  | (with_reducible apply Rv.k_andVT)
  | (with_reducible apply Rv.k_andVF)
  | (with_reducible apply Rv.k_orVT)
  | (with_reducible apply Rv.k_orVF)
  | (with_reducible apply Rv.k_addI)
  | (with_reducible apply Rv.k_subI)
  | ((with_reducible apply Rv.k_mulI); (focus (unfold L2.CMul; omega)))
  | ((with_reducible apply Rv.k_divI); (focus (unfold L2.CDiv; omega)))
  | ((with_reducible apply Rv.k_modI); (focus omega))
  | ((with_reducible apply Rv.k_powI); (focus (unfold L2.CPow; decide)))
  | (with_reducible apply Rv.k_negI)
  | (with_reducible apply Rv.k_ltI)
  | (with_reducible apply Rv.k_leI)
  | (with_reducible apply Rv.k_gtI)
  | (with_reducible apply Rv.k_geI)
  | (with_reducible apply Rv.k_eqI)
  | (with_reducible apply Rv.k_neI)
  | (with_reducible apply Rv.k_eqS)
  | (with_reducible apply Rv.k_neS)
  | (with_reducible apply Rv.k_isNN)
  | (with_reducible apply Rv.k_isNI)
  | (with_reducible apply Rv.k_isNR)
  | (with_reducible apply Rv.k_notNN)
  | (with_reducible apply Rv.k_notNI)
  | (with_reducible apply Rv.k_notNR)
  | ((with_reducible apply Rv.k_tyL); (focus lcg_sub))
  | ((with_reducible apply Rv.k_ixT); (focus lcg_sub); (focus with_unfolding_all rfl))
  | ((with_reducible apply Rv.k_ixL); (focus lcg_sub); (focus with_unfolding_all rfl))
  | ((with_reducible apply Rv.k_lenL); (focus lcg_sub))
  | ((with_reducible apply Rv.k_lenU); (focus lcg_sub))
  | ((with_reducible apply Rv.k_tup); (focus lcg_sub))
  | ((with_reducible apply Rv.k_lst); (focus lcg_sub))
  | ((with_reducible apply Rv.k_list); (focus lcg_sub))
  | ((with_reducible apply Rv.k_append); (focus lcg_sub); (focus lcg_sub))
  | ((with_reducible apply Rv.k_cat); (focus lcg_sub); (focus lcg_sub); (focus lcg_sub))
  | ((with_reducible apply Rv.k_clear); (focus lcg_sub))
  | (with_reducible apply Rv.k_int1)
  | (with_reducible apply Rv.k_max2)
  | (with_reducible apply Rv.k_min2)
  | (with_reducible apply Rv.k_str)
  | (with_reducible apply Rv.k_part)
  | (with_reducible apply Rv.r_M1)
  | (with_reducible apply Rv.r_dget)
  | (with_reducible apply Rv.r_din)
  | (with_reducible apply Rv.r_dnotin)
  | (with_reducible apply Rv.r_dget2)
  | (with_reducible apply Rv.r_sl)
  | (with_reducible apply Rv.r_nopart)
  | (with_reducible apply Rv.r_part)
  | (with_reducible apply Rv.r_for)
  | (with_reducible apply Rv.r_lc)
  | (with_reducible apply Rv.r_yes)
  | (with_reducible apply Rv.r_iList)
  | (with_reducible apply Rv.r_iRng1)
  | (with_reducible apply Rv.r_iRng2)
  | (with_reducible apply Rv.r_iZip)
  | (with_reducible apply Rv.r_iStr)
  | (with_reducible apply Rv.r_iKeys)
  | (with_reducible apply Rv.r_lstRg)
  | ((with_reducible apply Rv.k_itl); (focus lcg_sub))
  | ((with_reducible apply Rv.k_zip); (focus lcg_sub); (focus lcg_sub))
  | ((with_reducible apply Rv.k_rng1); (focus omega))
  | ((with_reducible apply Rv.k_rng2); (focus omega))
  | (with_reducible apply Rv.k_its)
  | (with_reducible apply Rv.r_retN)
  | (with_reducible apply Rv.r_next)
  | (with_reducible apply Rv.r_setF)
  | (with_reducible apply Rv.r_dput)
  | (with_reducible apply Rv.r_setI)
  | (with_reducible apply Rv.r_raise)
  | (with_reducible apply Rv.r_wF)
  | (with_reducible apply Rv.k_ifTT)
  | (with_reducible apply Rv.k_ifFF)
  | (with_reducible apply Rv.k_ifNT)
  | (with_reducible apply Rv.k_ifNF)
  | (with_reducible apply Rv.k_andNT)
  | (with_reducible apply Rv.k_andNF)
  | (with_reducible apply Rv.k_orNT)
  | (with_reducible apply Rv.k_orNF)
  | (with_reducible apply Rv.k_andVNT)
  | (with_reducible apply Rv.k_andVNF)
  | (with_reducible apply Rv.k_orVNT)
  | (with_reducible apply Rv.k_orVNF)
  | (with_reducible apply Rv.k_isB_ii)
  | (with_reducible apply Rv.k_isB_ib)
  | (with_reducible apply Rv.k_isB_bi)
  | (with_reducible apply Rv.k_isB_bb)
  | (with_reducible apply Rv.k_isB_ni)
  | (with_reducible apply Rv.k_isB_ss)
  | ((with_reducible apply Rv.k_isB_ll); (focus lcg_sub))
  | ((with_reducible apply Rv.k_isB_tt); (focus lcg_sub))
  | (with_reducible apply Rv.r_mk)
  | (with_reducible apply Rv.r_rg1)
  | (with_reducible apply Rv.k_rg1))
namespace Rv
open PySem L2
/-! ### sums -/
def sumR : Nat → (Nat → Int) → Int
  | 0, _ => 0
  | n + 1, f => sumR n f + f n
theorem sumR_congr {f g : Nat → Int} : ∀ {n : Nat}, (∀ i, i < n → f i = g i) → sumR n f = sumR n g
  | 0, _ => rfl
  | n + 1, h => by
    show sumR n f + f n = sumR n g + g n
    rw [sumR_congr fun i hi => h i (by omega), h n (by omega)]
theorem sumR_add (f g : Nat → Int) : ∀ n, sumR n (fun i => f i + g i) = sumR n f + sumR n g
  | 0 => rfl
  | n + 1 => by
    show sumR n _ + (f n + g n) = (sumR n f + f n) + (sumR n g + g n)
    rw [sumR_add f g n]
    omega
theorem sumR_sub (f g : Nat → Int) : ∀ n, sumR n (fun i => f i - g i) = sumR n f - sumR n g
  | 0 => rfl
  | n + 1 => by
    show sumR n _ + (f n - g n) = (sumR n f + f n) - (sumR n g + g n)
    rw [sumR_sub f g n]
    omega
theorem sumR_zero : ∀ n, sumR n (fun _ => 0) = 0
  | 0 => rfl
  | n + 1 => by
    show sumR n _ + 0 = 0
    rw [sumR_zero n]
    rfl
theorem sumR_if (p : Prop) [Decidable p] (f : Nat → Int) (n : Nat) : sumR n (fun i => if p then f i else 0) = if p then sumR n f else 0 := by
  by_cases h : p
  · rw [if_pos h]
    exact sumR_congr fun i _ => if_pos h
  · rw [if_neg h]
    exact (sumR_congr fun i _ => if_neg h).trans (sumR_zero n)
theorem sumR_one (f : Nat → Int) (k : Nat) : ∀ n, k < n → sumR n (fun i => if k = i then f i else 0) = f k
  | 0, h => absurd h (Nat.not_lt_zero _)
  | n + 1, h => by
    show sumR n _ + (if k = n then f n else 0) = f k
    by_cases e : k = n
    · subst e
      rw [if_pos rfl]
      have : sumR k (fun i => if k = i then f i else 0) = 0 := (sumR_congr fun i hi => if_neg (by omega)).trans (sumR_zero k)
      rw [this]
      omega
    · rw [if_neg e, sumR_one f k n (by omega)]
      omega
theorem sumR_nonneg {f : Nat → Int} : ∀ {n : Nat}, (∀ i, i < n → 0 ≤ f i) → 0 ≤ sumR n f
  | 0, _ => Int.le_refl _
  | n + 1, h => by
    show 0 ≤ sumR n f + f n
    have := sumR_nonneg (f := f) (n := n) fun i hi => h i (by omega)
    have := h n (by omega)
    omega
theorem sumR_le {f g : Nat → Int} : ∀ {n : Nat}, (∀ i, i < n → f i ≤ g i) → sumR n f ≤ sumR n g
  | 0, _ => Int.le_refl _
  | n + 1, h => by
    show sumR n f + f n ≤ sumR n g + g n
    have := sumR_le (f := f) (g := g) (n := n) fun i hi => h i (by omega)
    have := h n (by omega)
    omega
/-! ### lists by a function -/
def fV (n : Nat) (f : Nat → Int) : List V := (List.range n).map fun i => V.int (f i)
def fI (n : Nat) (f : Nat → Int) : List Int := (List.range n).map f
theorem fV_len (n : Nat) (f : Nat → Int) : (fV n f).length = n := by
  unfold fV
  rw [List.length_map, List.length_range]
theorem fI_len (n : Nat) (f : Nat → Int) : (fI n f).length = n := by
  unfold fI
  rw [List.length_map, List.length_range]
theorem fV_fI (n : Nat) (f : Nat → Int) : fV n f = (fI n f).map V.int := by
  unfold fV fI
  rw [List.map_map]
  rfl
theorem fI_get {n : Nat} {f : Nat → Int} {i : Nat} (h : i < n) : (fI n f).getD i 0 = f i := by
  unfold fI
  rw [List.getD_eq_getElem?_getD, List.getElem?_map, List.getElem?_range h]
  rfl
theorem fV_get {n : Nat} {f : Nat → Int} {i : Nat} (h : i < n) : (fV n f)[i]? = some (.int (f i)) := by
  unfold fV
  rw [List.getElem?_map, List.getElem?_range h]
  rfl
theorem fV_at {n : Nat} {f : Nat → Int} {i : Nat} (h : i < n) : atI (fV n f) (i : Int) = some (.int (f i)) := atI_nat (fV_get h)
theorem fV_congr {n : Nat} {f g : Nat → Int} (h : ∀ i, i < n → f i = g i) : fV n f = fV n g := List.map_congr_left fun i hi => by rw [h i (List.mem_range.mp hi)]
theorem fI_congr {n : Nat} {f g : Nat → Int} (h : ∀ i, i < n → f i = g i) : fI n f = fI n g := List.map_congr_left fun i hi => h i (List.mem_range.mp hi)
theorem fV_set {n : Nat} {f : Nat → Int} {k : Nat} {v : Int} : (fV n f).set k (.int v) = fV n fun i => if i = k then v else f i := by
  refine List.ext_getElem? fun i => ?_
  by_cases hi : i < n
  · rw [fV_get hi, List.getElem?_set, fV_len, fV_get hi]
    by_cases e : k = i
    · subst e
      rw [if_pos rfl, if_pos hi, if_pos rfl]
    · rw [if_neg e, if_neg fun z => e z.symm]
  · rw [List.getElem?_eq_none (by rw [List.length_set, fV_len]; omega), List.getElem?_eq_none (by rw [fV_len]; omega)]
theorem ints_fI (Y : List Int) : Y = fI Y.length fun i => Y.getD i 0 := by
  refine List.ext_getElem? fun i => ?_
  by_cases hi : i < Y.length
  · unfold fI
    rw [List.getElem?_map, List.getElem?_range hi]
    show Y[i]? = some (Y.getD i 0)
    rw [List.getD_eq_getElem?_getD, List.getElem?_eq_getElem hi]
    rfl
  · rw [List.getElem?_eq_none (by omega), List.getElem?_eq_none (by rw [fI_len]; omega)]
theorem ints_fV (Y : List Int) : Y.map V.int = fV Y.length fun i => Y.getD i 0 := by
  rw [fV_fI, ← ints_fI]
theorem map_at {Y : List Int} {i : Nat} (h : i < Y.length) : (Y.map V.int)[i]? = some (.int (Y.getD i 0)) := by
  rw [ints_fV]
  exact fV_get h
/-! ### the flows -/
/-- at each point a sum over all whose way goes through it -/
def flowM (B : List Nat) (net : Nat → Int) (q : Nat) : Int := sumR (B.length + 1) fun p => if q ∈ wayM B p then net p else 0
def netM (Y T : List Int) (p : Nat) : Int := Y.getD p 0 - T.getD p 0
structure Year (B : List Nat) (Y : List Int) : Prop where
  len : Y.length = B.length + 1
  ok : ∀ y ∈ Y, 0 ≤ y ∧ y ≤ 1000000
theorem Year.get {B : List Nat} {Y : List Int} (h : Year B Y) (i : Nat) : 0 ≤ Y.getD i 0 ∧ Y.getD i 0 ≤ 1000000 := by
  rw [List.getD_eq_getElem?_getD]
  by_cases hi : i < Y.length
  · rw [List.getElem?_eq_getElem hi]
    exact h.ok _ (List.getElem_mem hi)
  · rw [List.getElem?_eq_none (by omega)]
    exact ⟨by decide, by decide⟩
/-- the way, gone on as long as the point is not less than m -/
def wayT (B : List Nat) (m : Nat) : Nat → List Nat
  | 0 => [0]
  | p + 1 => if m ≤ p + 1 then (p + 1) :: wayT B m (min (B.getD p 0) p) else [p + 1]
termination_by p => p
decreasing_by omega
theorem wayT_few {B : List Nat} {m k : Nat} (h : k < m) : wayT B m k = [k] := by
  cases k with
  | zero => unfold wayT; rfl
  | succ p => rw [wayT, if_neg (by omega)]
theorem wayT_all {B : List Nat} : ∀ k, wayT B 1 k = wayM B k := by
  intro k
  induction k using Nat.strongRecOn with
  | _ k ih =>
    cases k with
    | zero => rw [wayM_zero]; unfold wayT; rfl
    | succ p => rw [wayT, wayM, if_pos (by omega), ih _ (by omega)]
theorem wayT_step {B : List Nat} (hB : Riv B) {m : Nat} (hm : 1 ≤ m) (hm2 : m ≤ B.length) : ∀ k, (∀ q, q ∈ wayT B m k ↔ q ∈ wayT B (m + 1) k ∨ (m ∈ wayT B (m + 1) k ∧ q = B.getD (m - 1) 0)) ∧ (m ∈ wayT B (m + 1) k → ∀ q ∈ wayT B (m + 1) k, m ≤ q) := by
  have hlow := hB.low (m - 1) (by omega)
  intro k
  induction k using Nat.strongRecOn with
  | _ k ih =>
    cases k with
    | zero =>
      have e : ∀ m, wayT B m 0 = [0] := fun m => by unfold wayT; rfl
      rw [e, e]
      have n : ¬ m ∈ [0] := by simp; omega
      exact ⟨fun q => ⟨fun h => .inl h, fun h => h.elim id fun z => absurd z.1 n⟩, fun h => absurd h n⟩
    | succ p =>
      by_cases h1 : m + 1 ≤ p + 1
      · obtain ⟨i1, i2⟩ := ih (min (B.getD p 0) p) (by omega)
        have e1 : wayT B m (p + 1) = (p + 1) :: wayT B m (min (B.getD p 0) p) := by rw [wayT, if_pos (by omega)]
        have e2 : wayT B (m + 1) (p + 1) = (p + 1) :: wayT B (m + 1) (min (B.getD p 0) p) := by rw [wayT, if_pos h1]
        rw [e1, e2]
        have n : m ≠ p + 1 := by omega
        have hmem : m ∈ (p + 1) :: wayT B (m + 1) (min (B.getD p 0) p) ↔ m ∈ wayT B (m + 1) (min (B.getD p 0) p) := ⟨fun h => (List.mem_cons.mp h).elim (fun z => absurd z n) id, fun h => List.mem_cons_of_mem _ h⟩
        refine ⟨fun q => ?_, fun h q hq => ?_⟩
        · rw [hmem, List.mem_cons, List.mem_cons, i1 q]
          exact ⟨fun h => by rcases h with h | h | h; exact .inl (.inl h); exact .inl (.inr h); exact .inr h, fun h => by rcases h with (h | h) | h; exact .inl h; exact .inr (.inl h); exact .inr (.inr h)⟩
        · rcases List.mem_cons.mp hq with z | z
          · omega
          · exact i2 (hmem.mp h) q z
      · have e2 : wayT B (m + 1) (p + 1) = [p + 1] := wayT_few (by omega)
        rw [e2]
        by_cases h2 : m = p + 1
        · subst h2
          have e1 : wayT B (p + 1) (p + 1) = [p + 1, B.getD p 0] := by
            have hl : B.getD p 0 ≤ p := hlow
            rw [wayT, if_pos (Nat.le_refl _), Nat.min_eq_left hl, wayT_few (by omega)]
          rw [e1]
          refine ⟨fun q => ?_, fun _ q hq => ?_⟩
          · simp
          · simp at hq
            omega
        · have e1 : wayT B m (p + 1) = [p + 1] := wayT_few (by omega)
          rw [e1]
          have n : ¬ m ∈ [p + 1] := by simp; omega
          exact ⟨fun q => ⟨fun h => .inl h, fun h => h.elim id fun z => absurd z.1 n⟩, fun h => absurd h n⟩
def flowT (B : List Nat) (m : Nat) (net : Nat → Int) (q : Nat) : Int := sumR (B.length + 1) fun p => if q ∈ wayT B m p then net p else 0
theorem flowT_all (B : List Nat) (net : Nat → Int) (q : Nat) : flowT B 1 net q = flowM B net q := sumR_congr fun p _ => by rw [wayT_all]
theorem flowT_none (B : List Nat) (net : Nat → Int) {q : Nat} (h : q ≤ B.length) : flowT B (B.length + 1) net q = net q := by
  rw [← sumR_one net q (B.length + 1) (by omega)]
  refine sumR_congr fun p hp => ?_
  rw [wayT_few hp]
  by_cases e : q = p
  · rw [if_pos e, if_pos (by rw [e]; exact List.mem_cons_self)]
  · rw [if_neg e, if_neg (by simp; exact e)]
theorem flowT_step {B : List Nat} (hB : Riv B) {m : Nat} (hm : 1 ≤ m) (hm2 : m ≤ B.length) (net : Nat → Int) (q : Nat) :
    flowT B m net q = if q = B.getD (m - 1) 0 then flowT B (m + 1) net q + flowT B (m + 1) net m else flowT B (m + 1) net q := by
  have hlow := hB.low (m - 1) (by omega)
  have key : ∀ k, (if q ∈ wayT B m k then net k else 0) = (if q ∈ wayT B (m + 1) k then net k else 0) + (if q = B.getD (m - 1) 0 then (if m ∈ wayT B (m + 1) k then net k else 0) else 0) := fun k => by
    obtain ⟨i1, i2⟩ := wayT_step hB hm hm2 k
    by_cases h1 : q ∈ wayT B (m + 1) k
    · rw [if_pos ((i1 q).mpr (.inl h1)), if_pos h1]
      by_cases h2 : q = B.getD (m - 1) 0
      · rw [if_pos h2, if_neg, Int.add_zero]
        intro h3
        have := i2 h3 q h1
        omega
      · rw [if_neg h2, Int.add_zero]
    · rw [if_neg h1, Int.zero_add]
      by_cases h2 : q = B.getD (m - 1) 0
      · rw [if_pos h2]
        by_cases h3 : m ∈ wayT B (m + 1) k
        · rw [if_pos h3, if_pos ((i1 q).mpr (.inr ⟨h3, h2⟩))]
        · rw [if_neg h3, if_neg fun z => ((i1 q).mp z).elim h1 fun y => h3 y.1]
      · rw [if_neg h2, if_neg fun z => ((i1 q).mp z).elim h1 fun y => h2 y.2]
  unfold flowT
  rw [sumR_congr fun k _ => key k, sumR_add, sumR_if]
  by_cases h2 : q = B.getD (m - 1) 0
  · rw [if_pos h2, if_pos h2]
  · rw [if_neg h2, if_neg h2, Int.add_zero]
def sp_year_of (c : Cs) : Sp := fun vs H Q E => ∃ r l B y Y, vs = [.ref r, .ref y] ∧ RivAt c H r l B ∧ SqL c.K H y (Y.map V.int) ∧ Y.length ≤ 1000 ∧ (Year B Y → Q .non H) ∧ (¬ Year B Y → E (.ref c.badYear) none H)
def sp_flows (c : Cs) : Sp := fun vs H Q E => ∃ r l B y t Y T, vs = [.ref r, .ref y, .ref t] ∧ RivAt c H r l B ∧ SqL c.K H y (Y.map V.int) ∧ SqL c.K H t (T.map V.int) ∧ Y.length ≤ 1000 ∧ T.length = Y.length ∧
  (Year B Y → ∀ a H', H a = none → Ext H H' → H' a = some (.lst (fV (B.length + 1) (flowM B (netM Y T)))) → Q (.ref a) H') ∧ (¬ Year B Y → E (.ref c.badYear) none H)
-- year_of: 0 river 1 year 2 inflow
def t_year_of (c : Cs) (E : XK) : TS :=
  (tSeq (tIfS (tTest (tOp rNe (tCB (rLenS c.K) (tCons (tVar 1) tNil)) (tMethS c.river "points" (sp_River_points c) (wF E) (tVar 0) tNil))) (tRaise (wF E) c.badYear) tNext)
  (tFor (iList c.K (tVar 1)) (gName 2)
  (tIfS (tNot (tTest (tChain rLeI rLeI (tC (.int 0)) (tVar 2) (tC (.int 1000000))))) (tRaise (wF E) c.badYear) tNext)))
-- flows: 0 river 1 year 2 taken 3 found 4 inflow 5 out 6 back 7 point
def t_flows (c : Cs) (E : XK) : TS :=
  (tSeq (tDrop (tFn (sp_year_of c) (wF E) (tCons (tVar 0) (tCons (tVar 1) tNil))))
  (tSeq (tAsg (tLc (iZip c.K (tCons (tVar 1) (tCons (tVar 2) tNil))) (gTup c.K 2 (gCons (gName 4) (gCons (gName 5) gNil))) tYes (tOp rSubI (tVar 4) (tVar 5)) [4, 5]) (gName 3))
  (tSeq (tFor (iRng1 (tCons (tOp rSubI (tMethS c.river "points" (sp_River_points c) (wF E) (tVar 0) tNil) (tC (.int 1))) tNil)) (gName 6)
  (tSeq (tAsg (tOp rSubI (tOp rSubI (tMethS c.river "points" (sp_River_points c) (wF E) (tVar 0) tNil) (tC (.int 1))) (tVar 6)) (gName 7))
  (tAsg (tOp rAddI (tOp (rIxL c.K) (tVar 3) (tMethS c.river "below" (sp_River_below c) (wF E) (tVar 0) (tCons (tVar 7) tNil))) (tOp (rIxL c.K) (tVar 3) (tVar 7))) (gSub (tVar 3) (tMethS c.river "below" (sp_River_below c) (wF E) (tVar 0) (tCons (tVar 7) tNil)) rSetL))))
  (tRet (tVar 3)))))
section
variable {c : Cs}
theorem pure_year_of (vs : List V) (H : Hp) (Q : VK) (E : XK) (h : sp_year_of c vs H Q E) : t_year_of c E { nx := fun _ H' => Q .non H', rt := Q } (start ["river", "year", "inflow"] vs) H := by
  obtain ⟨r, l, B, y, Y, rfl, A, hy, hl, k, kE⟩ := h
  unfold t_year_of
  repeat lcg_off
  refine k_meth A.ob.choose_spec (by lcg_src) ?_
  repeat lcg_off
  refine ⟨r, l, B, rfl, A, ?_⟩
  repeat lcg_off
  rw [List.length_map]
  refine k_ifN (fun h1 => ?_) (fun h1 => ?_)
  · repeat lcg_off
    exact kE fun hY => h1 (by have := hY.len; omega)
  · repeat lcg_off
    refine k_forL (fun i σ H' => (∃ v, σ = [some (.ref r), some (.ref y), v]) ∧ H' = H ∧ ∀ j, j < i → 0 ≤ Y.getD j 0 ∧ Y.getD j 0 ≤ 1000000) ⟨⟨_, rfl⟩, rfl, fun j hj => absurd hj (Nat.not_lt_zero _)⟩ (fun i σ H' _ p => by rw [p.2.1]; exact hy) ?_ ?_
    · rintro i x σ H' hx ⟨⟨v, rfl⟩, rfl, hj⟩
      have hi : i < Y.length := by
        by_cases z : i < Y.length
        · exact z
        · rw [List.getElem?_eq_none (by rw [List.length_map]; omega)] at hx
          cases hx
      rw [map_at hi] at hx
      cases hx
      show tIfS _ _ _ _ [some (.ref r), some (.ref y), some (.int (Y.getD i 0))] _
      repeat lcg_off
      have hbad : ¬ (0 ≤ Y.getD i 0 ∧ Y.getD i 0 ≤ 1000000) → ¬ Year B Y := fun z hY => z (hY.get i)
      refine k_chainD (fun h2 => ?_) (fun h2 => ?_)
      · repeat lcg_off
        refine k_ifN (fun h3 => ?_) (fun h3 => ?_)
        · repeat lcg_off
          exact kE (hbad fun z => h3 z.2)
        · repeat lcg_off
          refine ⟨⟨_, rfl⟩, rfl, fun j hj' => ?_⟩
          by_cases e : j = i
          · subst e
            exact ⟨h2, h3⟩
          · exact hj j (by omega)
      · repeat lcg_off
        exact kE (hbad fun z => h2 z.1)
    · rintro σ H' ⟨⟨v, rfl⟩, rfl, hj⟩
      rw [List.length_map] at hj
      refine k ⟨by omega, fun y hy => ?_⟩
      obtain ⟨j, hj', e⟩ := List.getElem_of_mem hy
      have := hj j hj'
      rw [List.getD_eq_getElem?_getD, List.getElem?_eq_getElem hj', e] at this
      exact this
theorem pure_flows (vs : List V) (H : Hp) (Q : VK) (E : XK) (h : sp_flows c vs H Q E) : t_flows c E { nx := fun _ H' => Q .non H', rt := Q } (start ["river", "year", "taken", "found", "inflow", "out", "back", "point"] vs) H := by
  obtain ⟨r, l, B, y, t, Y, T, rfl, A, hy, ht, hl, hT, k, kE⟩ := h
  have hf := A.ok.few
  unfold t_flows
  repeat lcg_off
  refine ⟨r, l, B, y, Y, rfl, A, hy, hl, fun hY => ?_, kE⟩
  have hYl := hY.len
  repeat lcg_off
  refine k_lcZ (n := B.length + 1) (by lcg_sub) (by lcg_sub) (by rw [List.length_map]; omega) (by rw [List.length_map]; omega) (fun i => .int (netM Y T i)) (fun x y => rfl) (by omega) (fun i x z hx hz H1 ac Q1 q => ?_) (fun D H1 hD e1 h1 => ?_)
  · have hi : i < Y.length := by
      by_cases z : i < Y.length
      · exact z
      · rw [List.getElem?_eq_none (by rw [List.length_map]; omega)] at hx
        cases hx
    rw [map_at hi] at hx
    rw [map_at (by omega)] at hz
    cases hx
    cases hz
    repeat lcg_off
    exact q H1 (Ext.refl _)
  have k' := k hY
  have h1' : H1 D = some (.lst (fV (B.length + 1) (flowT B (B.length + 1) (netM Y T)))) := by
    rw [h1]
    exact congrArg (fun z => some (HO.lst z)) (List.map_congr_left fun i hi => by rw [flowT_none B _ (by have := List.mem_range.mp hi; omega)])
  repeat lcg_off
  refine k_meth (A.ext e1).ob.choose_spec (by lcg_src) ?_
  repeat lcg_off
  refine ⟨r, l, B, rfl, A.ext e1, ?_⟩
  repeat lcg_off
  have en : ((B.length : Int) + 1 - 1).toNat = B.length := by omega
  rw [en]
  refine k_forR (fun i σ H' => (∃ a1 a2 a3 a4, σ = [some (.ref r), some (.ref y), some (.ref t), some (.ref D), a1, a2, a3, a4]) ∧ But [D] H1 H' ∧ H' D = some (.lst (fV (B.length + 1) (flowT B (B.length + 1 - i) (netM Y T))))) ⟨⟨_, _, _, _, rfl⟩, (Ext.refl _).but, h1'⟩ ?_ ?_
  · rintro i σ H2 hi ⟨⟨a1, a2, a3, a4, rfl⟩, b2, h2⟩
    rw [Int.zero_add]
    show tSeq _ _ _ [some (.ref r), some (.ref y), some (.ref t), some (.ref D), a1, a2, some (.int (i : Int)), a4] _
    have A2 : RivAt c H2 r l B := A.ac (e1.ac.but b2 (by lcg_sub))
    repeat lcg_off
    refine k_meth A2.ob.choose_spec (by lcg_src) ?_
    repeat lcg_off
    refine ⟨r, l, B, rfl, A2, ?_⟩
    repeat lcg_off
    have em : (B.length : Int) + 1 - 1 - (i : Int) = ((B.length - i : Nat) : Int) := by omega
    rw [em]
    refine k_meth A2.ob.choose_spec (by lcg_src) ?_
    repeat lcg_off
    obtain ⟨m, hm⟩ : ∃ m : Nat, B.length - i = m + 1 := ⟨B.length - i - 1, by omega⟩
    rw [hm]
    have hlow := A.ok.low m (by omega)
    refine ⟨r, l, B, _, rfl, A2, fun p ep hp => ?_, fun hn => absurd (by omega) hn⟩
    obtain rfl : p = m + 1 := by omega
    dsimp only [belO]
    refine k_ixL (by lcg_sub) (fV_at (by omega)) ?_
    repeat lcg_off
    refine k_ixL (by lcg_sub) (fV_at (by omega)) ?_
    repeat lcg_off
    refine k_meth A2.ob.choose_spec (by lcg_src) ?_
    repeat lcg_off
    refine ⟨r, l, B, _, rfl, A2, fun p ep hp => ?_, fun hn => absurd (by omega) hn⟩
    obtain rfl : p = m + 1 := by omega
    dsimp only [belO]
    refine k_setI (k := B.getD m 0) (by lcg_sub) (ixN_at (by rw [fV_len]; omega)) fun H3 b3 h3 => ?_
    repeat lcg_off
    refine ⟨⟨_, _, _, _, rfl⟩, b2.trans b3, ?_⟩
    rw [h3, fV_set]
    refine congrArg (fun z => some (HO.lst z)) (fV_congr fun q hq => ?_)
    have e4 : B.length + 1 - (i + 1) = m + 1 := by omega
    have e5 : B.length + 1 - i = m + 1 + 1 := by omega
    rw [e4, e5, flowT_step A.ok (m := m + 1) (by omega) (by omega)]
    by_cases hq' : q = B.getD m 0
    · subst hq'
      rfl
    · have : ¬ q = B.getD (m + 1 - 1) 0 := hq'
      rw [if_neg hq', if_neg this]
  · rintro σ H2 ⟨⟨a1, a2, a3, a4, rfl⟩, b2, h2⟩
    repeat lcg_off
    refine k' D H2 hD (e1.ac.but b2 (by lcg_sub)).ext ?_
    rw [h2]
    have e4 : B.length + 1 - B.length = 1 := by omega
    rw [e4]
    exact congrArg (fun z => some (HO.lst z)) (fV_congr fun q hq => flowT_all B _ q)
end
end Rv

end
section
local macro_rules | `(tactic| lcg_src) => `(tactic| first
  | assumption
  | (with_reducible exact Rv.lk_here)
  | (refine (Rv.lk_past (by decide +kernel)).trans ?_; lcg_src)
  | (with_unfolding_all exact rfl))
local macro_rules | `(tactic| lcg_sub) => `(tactic| first
  | assumption
  | ((with_reducible apply Rv.Ext.hl); (focus assumption); (focus lcg_sub))
  | ((with_reducible apply Rv.But.hl); (focus assumption); (focus lcg_sub); (focus lcg_sub))
  | ((with_reducible apply Rv.Ac.hl); (focus assumption); (focus lcg_sub))
  | ((with_reducible apply L2.SqL.of); (focus assumption))
  | ((with_reducible apply Rv.Ext.sq); (focus assumption); (focus lcg_sub))
  | ((with_reducible apply Rv.But.sq); (focus assumption); (focus lcg_sub); (focus lcg_sub))
  | ((with_reducible apply Rv.Ac.sq); (focus assumption); (focus lcg_sub))
  | ((with_reducible apply L2.SqT.of); (focus assumption))
  | ((with_reducible apply Rv.Ext.st); (focus assumption); (focus lcg_sub))
  | ((with_reducible apply Rv.But.st); (focus assumption); (focus lcg_sub); (focus lcg_sub))
  | ((with_reducible apply Rv.Ac.st); (focus assumption); (focus lcg_sub))
  | ((with_reducible apply L2.Rd.of); (focus lcg_sub))
  | ((with_reducible apply Rv.RivAt.ext); (focus assumption); (focus lcg_sub))
  | ((with_reducible apply Rv.RivAt.but); (focus assumption); (focus lcg_sub); (focus lcg_sub); (focus lcg_sub))
  | ((with_reducible apply Rv.RivAt.ac); (focus assumption); (focus lcg_sub))
  | (with_reducible apply Rv.nin_nil)
  | ((with_reducible apply Rv.nin_cons); (focus lcg_sub); (focus lcg_sub))
  | (with_reducible apply Rv.frs_nil)
  | ((with_reducible apply Rv.frs_cons); (focus lcg_sub); (focus lcg_sub))
  | ((with_reducible apply Ne.symm); (focus assumption))
  | ((with_reducible apply Rv.ne_nf); (focus assumption); (focus lcg_sub))
  | ((with_reducible apply Rv.ne_fn); (focus assumption); (focus lcg_sub))
  | ((with_reducible apply Rv.ne_k1); (focus assumption); (focus lcg_sub); (focus (intro z; cases z)))
  | ((with_reducible apply Rv.ne_k2); (focus assumption); (focus lcg_sub); (focus (intro z; cases z)))
  | ((with_reducible apply Rv.free2); (focus assumption); (focus lcg_sub))
  | (with_reducible apply Rv.Ac.refl)
  | ((with_reducible apply Rv.Ac.step'); (focus assumption); (focus lcg_sub))
  | ((with_reducible apply Rv.Ac.but'); (focus assumption); (focus lcg_sub); (focus lcg_sub))
  | (with_reducible apply Rv.Ext.refl)
  | ((with_reducible apply Rv.Ac.ext); (focus lcg_sub))
  | ((with_reducible apply Rv.sz_le); first | omega | (simp only [List.length_cons, List.length_nil, List.length_map, List.length_append]; omega))
  | ((with_reducible apply Rv.sz_lt); first | omega | (simp only [List.length_cons, List.length_nil, List.length_map, List.length_append]; omega)))
local macro_rules | `(tactic| lcg_off) => `(tactic| first
  | (with_reducible apply Rv.r_seq)
  | (with_reducible apply Rv.r_asg)
  | (with_reducible apply Rv.r_op)
  | ((with_reducible apply Rv.r_var); (focus with_unfolding_all rfl))
  | (with_reducible apply Rv.r_c)
  | (with_reducible apply Rv.r_if)
  | (with_reducible apply Rv.r_test)
  | (with_reducible apply Rv.r_fld)
  | (with_reducible apply Rv.r_cons)
  | (with_reducible apply Rv.r_nil)
  | (with_reducible apply Rv.r_ret)
  | (with_reducible apply Rv.r_drop)
  | (with_reducible apply Rv.r_meth)
  | (with_reducible apply Rv.r_fn)
  | (with_reducible apply Rv.r_CB)
  | (with_reducible apply Rv.r_BM)
  | (with_reducible apply Rv.r_BM0)
  | (with_reducible apply Rv.k_bl)
  | (with_reducible apply Rv.r_not)
  | (with_reducible apply Rv.r_and)
  | (with_reducible apply Rv.r_or)
  | (with_reducible apply Rv.k_andT)
  | (with_reducible apply Rv.k_andF)
  | (with_reducible apply Rv.k_orT)
  | (with_reducible apply Rv.k_orF)
  | (with_reducible apply Rv.r_tB)
  | (with_reducible apply Rv.r_chain)
  | (with_reducible apply Rv.r_un)
  | (with_reducible apply Rv.r_tup)
  | (with_reducible apply Rv.r_lst)
  | (with_reducible apply Rv.r_andV)
  | (with_reducible apply Rv.r_orV)
  | (with_reducible apply Rv.r_notV)
  | (with_reducible apply Rv.r_ifE)
  | (with_reducible apply Rv.k_notV)
  | (with_reducible apply Rv.k_andVT)
  | (with_reducible apply Rv.k_andVF)
  | (with_reducible apply Rv.k_orVT)
  | (with_reducible apply Rv.k_orVF)
  | (with_reducible apply Rv.k_addI)
  | (with_reducible apply Rv.k_subI)
  | ((with_reducible apply Rv.k_mulI); (focus (unfold L2.CMul; omega)))
  | ((with_reducible apply Rv.k_divI); (focus (unfold L2.CDiv; omega)))
  | ((with_reducible apply Rv.k_modI); (focus omega))
  | ((with_reducible apply Rv.k_powI); (focus (unfold L2.CPow; decide)))
  | (with_reducible apply Rv.k_negI)
  | (with_reducible apply Rv.k_ltI)
  | (with_reducible apply Rv.k_leI)
  | (with_reducible apply Rv.k_gtI)
  | (with_reducible apply Rv.k_geI)
  | (with_reducible apply Rv.k_eqI)
  | (with_reducible apply Rv.k_neI)
  | (with_reducible apply Rv.k_eqS)
  | (with_reducible apply Rv.k_neS)
  | (with_reducible apply Rv.k_isNN)
  | (with_reducible apply Rv.k_isNI)
  | (with_reducible apply Rv.k_isNR)
  | (with_reducible apply Rv.k_notNN)
  | (with_reducible apply Rv.k_notNI)
  | (with_reducible apply Rv.k_notNR)
  | ((with_reducible apply Rv.k_tyL); (focus lcg_sub))
  | ((with_reducible apply Rv.k_ixT); (focus lcg_sub); (focus with_unfolding_all rfl))
  | ((with_reducible apply Rv.k_ixL); (focus lcg_sub); (focus with_unfolding_all rfl))
  | ((with_reducible apply Rv.k_lenL); (focus lcg_sub))
  | ((with_reducible apply Rv.k_lenU); (focus lcg_sub))
  | ((with_reducible apply Rv.k_tup); (focus lcg_sub))
  | ((with_reducible apply Rv.k_lst); (focus lcg_sub))
  | ((with_reducible apply Rv.k_list); (focus lcg_sub))
  | ((with_reducible apply Rv.k_append); (focus lcg_sub); (focus lcg_sub))
  | ((with_reducible apply Rv.k_cat); (focus lcg_sub); (focus lcg_sub); (focus lcg_sub))
  | ((with_reducible apply Rv.k_clear); (focus lcg_sub))
  | (with_reducible apply Rv.k_int1)
  | (with_reducible apply Rv.k_max2)
  | (with_reducible apply Rv.k_min2)
  | (with_reducible apply Rv.k_str)
  | (with_reducible apply Rv.k_part)
  | (with_reducible apply Rv.r_M1)
  | (with_reducible apply Rv.r_dget)
  | (with_reducible apply Rv.r_din)
  | (with_reducible apply Rv.r_dnotin)
  | (with_reducible apply Rv.r_dget2)
  | (with_reducible apply Rv.r_sl)
  | (with_reducible apply Rv.r_nopart)
  | (with_reducible apply Rv.r_part)
  | (with_reducible apply Rv.r_for)
  | (with_reducible apply Rv.r_lc)
  | (with_reducible apply Rv.r_yes)
  | (with_reducible apply Rv.r_iList)
  | (with_reducible apply Rv.r_iRng1)
  | (with_reducible apply Rv.r_iRng2)
  | (with_reducible apply Rv.r_iZip)
  | (with_reducible apply Rv.r_iStr)
  | (with_reducible apply Rv.r_iKeys)
  | (with_reducible apply Rv.r_lstRg)
  | ((with_reducible apply Rv.k_itl); (focus lcg_sub))
  | ((with_reducible apply Rv.k_zip); (focus lcg_sub); (focus lcg_sub))
  | ((with_reducible apply Rv.k_rng1); (focus omega))
  | ((with_reducible apply Rv.k_rng2); (focus omega))
  | (with_reducible apply Rv.k_its)
  | (with_reducible apply Rv.r_retN)
  | (with_reducible apply Rv.r_next)
  | (with_reducible apply Rv.r_setF)
  | (with_reducible apply Rv.r_dput)
  | (with_reducible apply Rv.r_setI)
  | (with_reducible apply Rv.r_raise)
  | (with_reducible apply Rv.r_wF)
  | (with_reducible apply Rv.k_ifTT)
  | (with_reducible apply Rv.k_ifFF)
  | (with_reducible apply Rv.k_ifNT)
  | (with_reducible apply Rv.k_ifNF)
  | (with_reducible apply Rv.k_andNT)
  | (with_reducible apply Rv.k_andNF)
  | (with_reducible apply Rv.k_orNT)
  | (with_reducible apply Rv.k_orNF)
  | (with_reducible apply Rv.k_andVNT)
  | (with_reducible apply Rv.k_andVNF)
  | (with_reducible apply Rv.k_orVNT)
  | (with_reducible apply Rv.k_orVNF)
  | (with_reducible apply Rv.k_isB_ii)
  | (with_reducible apply Rv.k_isB_ib)
  | (with_reducible apply Rv.k_isB_bi)
  | (with_reducible apply Rv.k_isB_bb)
  | (with_reducible apply Rv.k_isB_ni)
  | (with_reducible apply Rv.k_isB_ss)
  | ((with_reducible apply Rv.k_isB_ll); (focus lcg_sub))
  | ((with_reducible apply Rv.k_isB_tt); (focus lcg_sub))
  | (with_reducible apply Rv.r_mk)
  | (with_reducible apply Rv.r_rg1)
  | (with_reducible apply Rv.k_rg1))
namespace Rv
open PySem L2
/-! ### the laws' years and flows -/
def yearF (ns : List Int) (st : Int) (k : Nat) : Int := if cell ns (st + (k : Int)) % 5 = 4 then cell ns (st + (k : Int)) / 5 % 1000001 else cell ns (st + (k : Int)) / 5 % 60
theorem yearF_ok (ns : List Int) (st : Int) (k : Nat) : 0 ≤ yearF ns st k ∧ yearF ns st k ≤ 1000000 := by
  unfold yearF
  by_cases h : cell ns (st + (k : Int)) % 5 = 4
  · rw [if_pos h]
    omega
  · rw [if_neg h]
    omega
theorem year_fI {B : List Nat} {n : Nat} {f : Nat → Int} (hn : n = B.length + 1) (h : ∀ k, 0 ≤ f k ∧ f k ≤ 1000000) : Year B (fI n f) := ⟨by rw [fI_len]; exact hn, fun y hy => by
  obtain ⟨k, _, rfl⟩ := List.mem_map.mp hy
  exact h k⟩
def sp_l_year (c : Cs) : Sp := fun vs H Q E => ∃ (a : Addr) (ns : List Int) (st : Int) (n : Nat), vs = [.ref a, .int st, .int (n : Int)] ∧ SqL c.K H a (ns.map V.int) ∧ 0 ≤ st ∧ n ≤ 1000 ∧
  ∀ p H', H p = none → Ext H H' → H' p = some (.lst (fV n (yearF ns st))) → Q (.ref p) H'
theorem wayM_nodup (B : List Nat) : ∀ p, (wayM B p).Nodup := by
  intro p
  induction p using Nat.strongRecOn with
  | _ p ih =>
    cases p with
    | zero => rw [wayM_zero]; simp
    | succ n =>
      rw [wayM, List.nodup_cons]
      refine ⟨fun h => ?_, ih _ (by omega)⟩
      have := wayM_le _ _ h
      omega
def sp_l_flows (c : Cs) : Sp := fun vs H Q E => ∃ b y t B Y T, vs = [.ref b, .ref y, .ref t] ∧ SqL c.K H b (belV B) ∧ Riv B ∧ SqL c.K H y (Y.map V.int) ∧ SqL c.K H t (T.map V.int) ∧ Y.length = B.length + 1 ∧ T.length = B.length + 1 ∧
  ∀ a H', H a = none → Ext H H' → H' a = some (.lst (fV (B.length + 1) (flowM B (netM Y T)))) → Q (.ref a) H'
-- l_year: 0 script 1 start 2 size 3 year 4 k 5 cell 6 inflow
def t_l_year (c : Cs) (E : XK) : TS :=
  (tSeq (tAsg (tLst tNil) (gName 3))
  (tSeq (tFor (iRng1 (tCons (tVar 2) tNil)) (gName 4)
  (tSeq (tAsg (tFn (sp_l_cell_at c) (wF E) (tCons (tVar 0) (tCons (tOp rAddI (tVar 1) (tVar 4)) tNil))) (gName 5))
  (tSeq (tAsg (tOp rModI (tOp rDivI (tVar 5) (tC (.int 5))) (tC (.int 60))) (gName 6))
  (tSeq (tIfS (tTest (tOp rEq (tOp rModI (tVar 5) (tC (.int 5))) (tC (.int 4)))) (tAsg (tOp rModI (tOp rDivI (tVar 5) (tC (.int 5))) (tC (.int 1000001))) (gName 6)) tNext)
  (tDrop (tBM c.K "list" rAppend (tVar 3) (tCons (tVar 6) tNil)))))))
  (tRet (tVar 3))))
-- l_flows: 0 below 1 year 2 taken 3 found 4 inflow 5 point 6 other
def t_l_flows (c : Cs) (E : XK) : TS :=
  (tSeq (tAsg (tLc (iList c.K (tVar 1)) (gName 4) tYes (tC (.int 0)) [4]) (gName 3))
  (tSeq (tFor (iRng1 (tCons (tCB (rLenS c.K) (tCons (tVar 1) tNil)) tNil)) (gName 5)
  (tFor (iList c.K (tFn (sp_l_way c) (wF E) (tCons (tVar 0) (tCons (tVar 5) tNil)))) (gName 6)
  (tAsg (tOp rSubI (tOp rAddI (tOp (rIxL c.K) (tVar 3) (tVar 6)) (tOp (rIxL c.K) (tVar 1) (tVar 5))) (tOp (rIxL c.K) (tVar 2) (tVar 5))) (gSub (tVar 3) (tVar 6) rSetL))))
  (tRet (tVar 3))))
section
variable {c : Cs}
theorem pure_l_year (vs : List V) (H : Hp) (Q : VK) (E : XK) (h : sp_l_year c vs H Q E) : t_l_year c E { nx := fun _ H' => Q .non H', rt := Q } (start ["script", "start", "size", "year", "k", "cell", "inflow"] vs) H := by
  obtain ⟨a, ns, st, n, rfl, hs, h0, hn, k⟩ := h
  unfold t_l_year
  repeat lcg_off
  intro p H1 hp e1 h1
  repeat lcg_off
  rw [Int.toNat_natCast]
  refine k_forR (fun i σ H' => (∃ v1 v2 v3, σ = [some (.ref a), some (.int st), some (.int n), some (.ref p), v1, v2, v3]) ∧ But [p] H1 H' ∧ H' p = some (.lst (fV i (yearF ns st)))) ⟨⟨_, _, _, rfl⟩, (Ext.refl _).but, h1⟩ ?_ ?_
  · rintro i σ H2 hi ⟨⟨v1, v2, v3, rfl⟩, b2, h2⟩
    rw [Int.zero_add]
    show tSeq _ _ _ [some (.ref a), some (.int st), some (.int n), some (.ref p), some (.int (i : Int)), v2, v3] _
    have ac2 : Ac H H2 := e1.ac.but b2 (by lcg_sub)
    have app : ∀ v, v = V.int (yearF ns st i) → ∀ QQ : VK, (∀ H3, But [p] H1 H3 → H3 p = some (.lst (fV (i + 1) (yearF ns st))) → QQ .non H3) → rAppend (.ref p) [v] H2 QQ := fun v e QQ q => by
      subst e
      refine k_append h2 (sz_lt (by rw [fV_len]; omega)) fun H3 b3 h3 => q H3 (b2.trans b3) ?_
      rw [h3]
      unfold fV
      rw [List.range_succ, List.map_append]
      rfl
    repeat lcg_off
    refine ⟨a, ns, _, rfl, by lcg_sub, by omega, ?_⟩
    repeat lcg_off
    refine k_ifD (fun h5 => ?_) (fun h5 => ?_)
    · repeat lcg_off
      refine app _ ?_ _ fun H3 b3 h3 => ?_
      · unfold yearF
        rw [if_pos h5]
      exact ⟨⟨_, _, _, rfl⟩, b3, h3⟩
    · repeat lcg_off
      refine app _ ?_ _ fun H3 b3 h3 => ?_
      · unfold yearF
        rw [if_neg h5]
      exact ⟨⟨_, _, _, rfl⟩, b3, h3⟩
  · rintro σ H2 ⟨⟨v1, v2, v3, rfl⟩, b2, h2⟩
    repeat lcg_off
    exact k p H2 hp (e1.ac.but b2 (by lcg_sub)).ext h2
theorem pure_l_flows (vs : List V) (H : Hp) (Q : VK) (E : XK) (h : sp_l_flows c vs H Q E) : t_l_flows c E { nx := fun _ H' => Q .non H', rt := Q } (start ["below", "year", "taken", "found", "inflow", "point", "other"] vs) H := by
  obtain ⟨b, y, t, B, Y, T, rfl, hb, hB, hy, ht, hYl, hTl, k⟩ := h
  have hf := hB.few
  unfold t_l_flows
  repeat lcg_off
  refine k_lcL Y V.int (fun _ => true) (fun _ => .int 0) hy (fun x => rfl) (by omega) (fun x hx H1 ac QB q => by (repeat lcg_off); exact q H1 (Ext.refl _)) (fun x hx _ H1 ac Q1 q => by (repeat lcg_off); exact q H1 (Ext.refl _)) (fun D H1 hD e1 h1 => ?_)
  have h1' : H1 D = some (.lst (fV (B.length + 1) fun q => sumR 0 fun p => if q ∈ wayM B p then netM Y T p else 0)) := by
    rw [h1, filter_yes]
    refine congrArg (fun z => some (HO.lst z)) (List.ext_getElem? fun i => ?_)
    rw [List.getElem?_map]
    by_cases hi : i < B.length + 1
    · rw [fV_get hi, List.getElem?_eq_getElem (by omega)]
      rfl
    · rw [List.getElem?_eq_none (by omega), List.getElem?_eq_none (by rw [fV_len]; omega)]
      rfl
  repeat lcg_off
  rw [List.length_map, hYl]
  repeat lcg_off
  rw [Int.toNat_natCast]
  refine k_forR (fun i σ H' => (∃ v1 v2 v3, σ = [some (.ref b), some (.ref y), some (.ref t), some (.ref D), v1, v2, v3]) ∧ But [D] H1 H' ∧ H' D = some (.lst (fV (B.length + 1) fun q => sumR i fun p => if q ∈ wayM B p then netM Y T p else 0))) ⟨⟨_, _, _, rfl⟩, (Ext.refl _).but, h1'⟩ ?_ ?_
  · rintro i σ H2 hi ⟨⟨v1, v2, v3, rfl⟩, b2, h2⟩
    rw [Int.zero_add]
    show tFor _ _ _ _ [some (.ref b), some (.ref y), some (.ref t), some (.ref D), v1, some (.int (i : Int)), v3] _
    have ac2 : Ac H H2 := e1.ac.but b2 (by lcg_sub)
    repeat lcg_off
    refine ⟨b, B, i, rfl, by lcg_sub, hB, by omega, ?_⟩
    intro w H3 hw e3 h3
    repeat lcg_off
    refine k_forL (fun j σ H' => (∃ v1 v3, σ = [some (.ref b), some (.ref y), some (.ref t), some (.ref D), v1, some (.int (i : Int)), v3]) ∧ But [D] H3 H' ∧ H' D = some (.lst (fV (B.length + 1) fun q => (sumR i fun p => if q ∈ wayM B p then netM Y T p else 0) + if q ∈ (wayM B i).take j then netM Y T i else 0))) ⟨⟨_, _, rfl⟩, (Ext.refl _).but, ?_⟩ (fun j σ H' _ p => SqL.of (p.2.1.g _ _ h3 (nin_cons (ne_fn hw h2) nin_nil))) ?_ ?_
    · rw [e3.g _ _ h2]
      exact congrArg (fun z => some (HO.lst z)) (fV_congr fun q _ => by simp)
    · rintro j x σ H4 hx ⟨⟨v1, v3, rfl⟩, b4, h4⟩
      have hj : j < (wayM B i).length := by
        by_cases z : j < (wayM B i).length
        · exact z
        · rw [List.getElem?_eq_none (by rw [List.length_map]; omega)] at hx
          cases hx
      obtain ⟨q, hq⟩ : ∃ q, (wayM B i)[j]? = some q := ⟨_, List.getElem?_eq_getElem hj⟩
      rw [List.getElem?_map, hq] at hx
      cases hx
      have hqi : q ≤ i := wayM_le _ _ (List.mem_of_getElem? hq)
      have nD : ∀ z, H z ≠ none → z ∉ [D] := fun z hz => nin_cons (fun e => hz (by rw [e]; exact hD)) nin_nil
      have ac4 : Ac H H4 := (ac2.step e3).but b4 (by lcg_sub)
      show tAsg _ _ _ [some (.ref b), some (.ref y), some (.ref t), some (.ref D), v1, some (.int (i : Int)), some (nV q)] _
      repeat lcg_off
      refine k_ixL (by lcg_sub) (fV_at (by omega)) ?_
      repeat lcg_off
      refine k_ixL (by lcg_sub) (atI_nat (map_at (by omega))) ?_
      repeat lcg_off
      refine k_ixL (by lcg_sub) (atI_nat (map_at (by omega))) ?_
      repeat lcg_off
      refine k_setI (k := q) (by lcg_sub) (ixN_at (by rw [fV_len]; omega)) fun H5 b5 h5 => ?_
      repeat lcg_off
      refine ⟨⟨_, _, rfl⟩, b4.trans b5, ?_⟩
      rw [h5, fV_set]
      refine congrArg (fun z => some (HO.lst z)) (fV_congr fun p hp => ?_)
      have et : (wayM B i).take (j + 1) = (wayM B i).take j ++ [q] := by
        rw [List.take_succ_eq_append_getElem hj]
        rw [List.getElem?_eq_getElem hj] at hq
        rw [Option.some.inj hq]
      have hnd := wayM_nodup B i
      rw [← List.take_append_drop (j + 1) (wayM B i), et, List.append_assoc] at hnd
      have hnq : q ∉ (wayM B i).take j := fun z => (List.nodup_append.mp hnd).2.2 q z q (List.mem_append_left _ List.mem_cons_self) rfl
      rw [et]
      by_cases e : p = q
      · subst e
        rw [if_pos rfl, if_neg hnq, if_pos (List.mem_append_right _ List.mem_cons_self)]
        unfold netM
        omega
      · rw [if_neg e]
        have hm : p ∈ (wayM B i).take j ++ [q] ↔ p ∈ (wayM B i).take j := by
          rw [List.mem_append]
          exact ⟨fun z => z.elim id fun z => absurd (by simpa using z) e, .inl⟩
        simp only [hm]
    · rintro σ H4 ⟨⟨v1, v3, rfl⟩, b4, h4⟩
      refine ⟨⟨_, _, _, rfl⟩, (b2.step e3).trans b4, ?_⟩
      rw [h4]
      refine congrArg (fun z => some (HO.lst z)) (fV_congr fun p hp => ?_)
      rw [List.length_map, List.take_length]
      rfl
  · rintro σ H2 ⟨⟨v1, v2, v3, rfl⟩, b2, h2⟩
    repeat lcg_off
    exact k D H2 hD (e1.ac.but b2 (by lcg_sub)).ext h2
end
end Rv

end
section
local macro_rules | `(tactic| lcg_src) => `(tactic| first
  | assumption
  | (with_reducible exact Rv.lk_here)
  | (refine (Rv.lk_past (by decide +kernel)).trans ?_; lcg_src)
  | (with_unfolding_all exact rfl))
local macro_rules | `(tactic| lcg_sub) => `(tactic| first
  | assumption
  | ((with_reducible apply Rv.Ext.hl); (focus assumption); (focus lcg_sub))
  | ((with_reducible apply Rv.But.hl); (focus assumption); (focus lcg_sub); (focus lcg_sub))
  | ((with_reducible apply Rv.Ac.hl); (focus assumption); (focus lcg_sub))
  | ((with_reducible apply L2.SqL.of); (focus assumption))
  | ((with_reducible apply Rv.Ext.sq); (focus assumption); (focus lcg_sub))
  | ((with_reducible apply Rv.But.sq); (focus assumption); (focus lcg_sub); (focus lcg_sub))
  | ((with_reducible apply Rv.Ac.sq); (focus assumption); (focus lcg_sub))
  | ((with_reducible apply L2.SqT.of); (focus assumption))
  | ((with_reducible apply Rv.Ext.st); (focus assumption); (focus lcg_sub))
  | ((with_reducible apply Rv.But.st); (focus assumption); (focus lcg_sub); (focus lcg_sub))
  | ((with_reducible apply Rv.Ac.st); (focus assumption); (focus lcg_sub))
  | ((with_reducible apply L2.Rd.of); (focus lcg_sub))
  | ((with_reducible apply Rv.RivAt.ext); (focus assumption); (focus lcg_sub))
  | ((with_reducible apply Rv.RivAt.but); (focus assumption); (focus lcg_sub); (focus lcg_sub); (focus lcg_sub))
  | ((with_reducible apply Rv.RivAt.ac); (focus assumption); (focus lcg_sub))
  | (with_reducible apply Rv.nin_nil)
  | ((with_reducible apply Rv.nin_cons); (focus lcg_sub); (focus lcg_sub))
  | (with_reducible apply Rv.frs_nil)
  | ((with_reducible apply Rv.frs_cons); (focus lcg_sub); (focus lcg_sub))
  | ((with_reducible apply Ne.symm); (focus assumption))
  | ((with_reducible apply Rv.ne_nf); (focus assumption); (focus lcg_sub))
  | ((with_reducible apply Rv.ne_fn); (focus assumption); (focus lcg_sub))
  | ((with_reducible apply Rv.ne_k1); (focus assumption); (focus lcg_sub); (focus (intro z; cases z)))
  | ((with_reducible apply Rv.ne_k2); (focus assumption); (focus lcg_sub); (focus (intro z; cases z)))
  | ((with_reducible apply Rv.free2); (focus assumption); (focus lcg_sub))
  | (with_reducible apply Rv.Ac.refl)
  | ((with_reducible apply Rv.Ac.step'); (focus assumption); (focus lcg_sub))
  | ((with_reducible apply Rv.Ac.but'); (focus assumption); (focus lcg_sub); (focus lcg_sub))
  | (with_reducible apply Rv.Ext.refl)
  | ((with_reducible apply Rv.Ac.ext); (focus lcg_sub))
  | ((with_reducible apply Rv.sz_le); first | omega | (simp only [List.length_cons, List.length_nil, List.length_map, List.length_append]; omega))
  | ((with_reducible apply Rv.sz_lt); first | omega | (simp only [List.length_cons, List.length_nil, List.length_map, List.length_append]; omega)))
local macro_rules | `(tactic| lcg_off) => `(tactic| first
  | (with_reducible apply Rv.r_seq)
  | (with_reducible apply Rv.r_asg)
  | (with_reducible apply Rv.r_op)
  | ((with_reducible apply Rv.r_var); (focus with_unfolding_all rfl))
  | (with_reducible apply Rv.r_c)
  | (with_reducible apply Rv.r_if)
  | (with_reducible apply Rv.r_test)
  | (with_reducible apply Rv.r_fld)
  | (with_reducible apply Rv.r_cons)
  | (with_reducible apply Rv.r_nil)
  | (with_reducible apply Rv.r_ret)
  | (with_reducible apply Rv.r_drop)
  | (with_reducible apply Rv.r_meth)
  | (with_reducible apply Rv.r_fn)
  | (with_reducible apply Rv.r_CB)
  | (with_reducible apply Rv.r_BM)
  | (with_reducible apply Rv.r_BM0)
  | (with_reducible apply Rv.k_bl)
  | (with_reducible apply Rv.r_not)
  | (with_reducible apply Rv.r_and)
  | (with_reducible apply Rv.r_or)
  | (with_reducible apply Rv.k_andT)
  | (with_reducible apply Rv.k_andF)
  | (with_reducible apply Rv.k_orT)
  | (with_reducible apply Rv.k_orF)
  | (with_reducible apply Rv.r_tB)
  | (with_reducible apply Rv.r_chain)
  | (with_reducible apply Rv.r_un)
  | (with_reducible apply Rv.r_tup)
  | (with_reducible apply Rv.r_lst)
  | (with_reducible apply Rv.r_andV)
  | (with_reducible apply Rv.r_orV)
  | (with_reducible apply Rv.r_notV)
  | (with_reducible apply Rv.r_ifE)
  | (with_reducible apply Rv.k_notV)
  | (with_reducible apply Rv.k_andVT)
  | (with_reducible apply Rv.k_andVF)
  | (with_reducible apply Rv.k_orVT)
  | (with_reducible apply Rv.k_orVF)
  | (with_reducible apply Rv.k_addI)
  | (with_reducible apply Rv.k_subI)
  | ((with_reducible apply Rv.k_mulI); (focus (unfold L2.CMul; omega)))
  | ((with_reducible apply Rv.k_divI); (focus (unfold L2.CDiv; omega)))
  | ((with_reducible apply Rv.k_modI); (focus omega))
  | ((with_reducible apply Rv.k_powI); (focus (unfold L2.CPow; decide)))
  | (with_reducible apply Rv.k_negI)
  | (with_reducible apply Rv.k_ltI)
  | (with_reducible apply Rv.k_leI)
  | (with_reducible apply Rv.k_gtI)
  | (with_reducible apply Rv.k_geI)
  | (with_reducible apply Rv.k_eqI)
  | (with_reducible apply Rv.k_neI)
  | (with_reducible apply Rv.k_eqS)
  | (with_reducible apply Rv.k_neS)
  | (with_reducible apply Rv.k_isNN)
  | (with_reducible apply Rv.k_isNI)
  | (with_reducible apply Rv.k_isNR)
  | (with_reducible apply Rv.k_notNN)
  | (with_reducible apply Rv.k_notNI)
  | (with_reducible apply Rv.k_notNR)
  | ((with_reducible apply Rv.k_tyL); (focus lcg_sub))
  | ((with_reducible apply Rv.k_ixT); (focus lcg_sub); (focus with_unfolding_all rfl))
  | ((with_reducible apply Rv.k_ixL); (focus lcg_sub); (focus with_unfolding_all rfl))
  | ((with_reducible apply Rv.k_lenL); (focus lcg_sub))
  | ((with_reducible apply Rv.k_lenU); (focus lcg_sub))
  | ((with_reducible apply Rv.k_tup); (focus lcg_sub))
  | ((with_reducible apply Rv.k_lst); (focus lcg_sub))
  | ((with_reducible apply Rv.k_list); (focus lcg_sub))
  | ((with_reducible apply Rv.k_append); (focus lcg_sub); (focus lcg_sub))
  | ((with_reducible apply Rv.k_cat); (focus lcg_sub); (focus lcg_sub); (focus lcg_sub))
  | ((with_reducible apply Rv.k_clear); (focus lcg_sub))
  | (with_reducible apply Rv.k_int1)
  | (with_reducible apply Rv.k_max2)
  | (with_reducible apply Rv.k_min2)
  | (with_reducible apply Rv.k_str)
  | (with_reducible apply Rv.k_part)
  | (with_reducible apply Rv.r_M1)
  | (with_reducible apply Rv.r_dget)
  | (with_reducible apply Rv.r_din)
  | (with_reducible apply Rv.r_dnotin)
  | (with_reducible apply Rv.r_dget2)
  | (with_reducible apply Rv.r_sl)
  | (with_reducible apply Rv.r_nopart)
  | (with_reducible apply Rv.r_part)
  | (with_reducible apply Rv.r_for)
  | (with_reducible apply Rv.r_lc)
  | (with_reducible apply Rv.r_yes)
  | (with_reducible apply Rv.r_iList)
  | (with_reducible apply Rv.r_iRng1)
  | (with_reducible apply Rv.r_iRng2)
  | (with_reducible apply Rv.r_iZip)
  | (with_reducible apply Rv.r_iStr)
  | (with_reducible apply Rv.r_iKeys)
  | (with_reducible apply Rv.r_lstRg)
  | ((with_reducible apply Rv.k_itl); (focus lcg_sub))
  | ((with_reducible apply Rv.k_zip); (focus lcg_sub); (focus lcg_sub))
  | ((with_reducible apply Rv.k_rng1); (focus omega))
  | ((with_reducible apply Rv.k_rng2); (focus omega))
  | (with_reducible apply Rv.k_its)
  | (with_reducible apply Rv.r_retN)
  | (with_reducible apply Rv.r_next)
  | (with_reducible apply Rv.r_setF)
  | (with_reducible apply Rv.r_dput)
  | (with_reducible apply Rv.r_setI)
  | (with_reducible apply Rv.r_raise)
  | (with_reducible apply Rv.r_wF)
  | (with_reducible apply Rv.k_ifTT)
  | (with_reducible apply Rv.k_ifFF)
  | (with_reducible apply Rv.k_ifNT)
  | (with_reducible apply Rv.k_ifNF)
  | (with_reducible apply Rv.k_andNT)
  | (with_reducible apply Rv.k_andNF)
  | (with_reducible apply Rv.k_orNT)
  | (with_reducible apply Rv.k_orNF)
  | (with_reducible apply Rv.k_andVNT)
  | (with_reducible apply Rv.k_andVNF)
  | (with_reducible apply Rv.k_orVNT)
  | (with_reducible apply Rv.k_orVNF)
  | (with_reducible apply Rv.k_isB_ii)
  | (with_reducible apply Rv.k_isB_ib)
  | (with_reducible apply Rv.k_isB_bi)
  | (with_reducible apply Rv.k_isB_bb)
  | (with_reducible apply Rv.k_isB_ni)
  | (with_reducible apply Rv.k_isB_ss)
  | ((with_reducible apply Rv.k_isB_ll); (focus lcg_sub))
  | ((with_reducible apply Rv.k_isB_tt); (focus lcg_sub))
  | (with_reducible apply Rv.r_mk)
  | (with_reducible apply Rv.r_rg1)
  | (with_reducible apply Rv.k_rg1))
namespace Rv
open PySem L2
def sp_law_k04 := sp_law
def takF (ns : List Int) (k : Nat) : Int := if cell ns (18 + (k : Int)) % 4 = 3 then cell ns (18 + (k : Int)) / 4 % 1000001 else cell ns (18 + (k : Int)) / 4 % 40
-- law_k04: 0 script 1 size 2 below 3 year 4 taken 5 k 6 cell 7 due 8 river 9 handed 10 found
def t_law_k04 (c : Cs) (E : XK) : TS :=
  (tSeq (tAsg (tOp rAddI (tC (.int 1)) (tOp rModI (tFn (sp_l_cell_at c) (wF E) (tCons (tVar 0) (tCons (tC (.int 0)) tNil))) (tC (.int 8)))) (gName 1))
  (tSeq (tIfS (tTest (tOp rEq (tOp rModI (tOp rDivI (tFn (sp_l_cell_at c) (wF E) (tCons (tVar 0) (tCons (tC (.int 0)) tNil))) (tC (.int 8))) (tC (.int 9))) (tC (.int 1)))) (tAsg (tC (.int 30)) (gName 1)) tNext)
  (tSeq (tAsg (tFn (sp_l_below c) (wF E) (tCons (tVar 0) (tCons (tC (.int 1)) (tCons (tVar 1) tNil)))) (gName 2))
  (tSeq (tAsg (tFn (sp_l_year c) (wF E) (tCons (tVar 0) (tCons (tC (.int 9)) (tCons (tVar 1) tNil)))) (gName 3))
  (tSeq (tAsg (tLst tNil) (gName 4))
  (tSeq (tFor (iRng1 (tCons (tVar 1) tNil)) (gName 5)
  (tSeq (tAsg (tFn (sp_l_cell_at c) (wF E) (tCons (tVar 0) (tCons (tOp rAddI (tC (.int 18)) (tVar 5)) tNil))) (gName 6))
  (tDrop (tBM c.K "list" rAppend (tVar 4) (tCons (tOp (rIxL c.K) (tLst (tCons (tOp rModI (tOp rDivI (tVar 6) (tC (.int 4))) (tC (.int 40))) (tCons (tOp rModI (tOp rDivI (tVar 6) (tC (.int 4))) (tC (.int 1000001))) tNil))) (tCB rInt1 (tCons (tOp rEq (tOp rModI (tVar 6) (tC (.int 4))) (tC (.int 3))) tNil))) tNil)))))
  (tSeq (tAsg (tFn (sp_l_flows c) (wF E) (tCons (tVar 2) (tCons (tVar 3) (tCons (tVar 4) tNil)))) (gName 7))
  (tSeq (tAsg (tMakeS c.river (sp_River_init c) (wF E) (tCons (tVar 2) tNil)) (gName 8))
  (tSeq (tAsg (tLst (tCons (tCB (rListS c.K) (tCons (tVar 3) tNil)) (tCons (tCB (rListS c.K) (tCons (tVar 4) tNil)) tNil))) (gName 9))
  (tSeq (tAsg (tFn (sp_flows c) (wF E) (tCons (tVar 8) (tCons (tOp (rIxL c.K) (tVar 9) (tC (.int 0))) (tCons (tOp (rIxL c.K) (tVar 9) (tC (.int 1))) tNil)))) (gName 10))
  (tSeq (tIfS (tOr (tNot (tB (tFn (sp_l_same c) (wF E) (tCons (tVar 10) (tCons (tVar 7) tNil))))) (tTest (tOp (rNeD c.K) (tVar 9) (tLst (tCons (tVar 3) (tCons (tVar 4) tNil)))))) (tRet (tC (.bl false))) tNext)
  (tSeq (tAsg (tC (.int 5)) (gSub (tVar 10) (tC (.int 0)) rSetL))
  (tRet (tFn (sp_l_same c) (wF E) (tCons (tFn (sp_flows c) (wF E) (tCons (tVar 8) (tCons (tCB (rListS c.K) (tCons (tVar 3) tNil)) (tCons (tCB (rListS c.K) (tCons (tVar 4) tNil)) tNil)))) (tCons (tVar 7) tNil))))))))))))))))
section
variable {c : Cs}
theorem pure_law_k04 (vs : List V) (H : Hp) (Q : VK) (E : XK) (h : sp_law_k04 c vs H Q E) : t_law_k04 c E { nx := fun _ H' => Q .non H', rt := Q } (start ["script", "size", "below", "year", "taken", "k", "cell", "due", "river", "handed", "found"] vs) H := by
  obtain ⟨a, ns, rfl, hs, hlen, k⟩ := h
  have c0 := Int.emod_nonneg (cell ns 0) (show (8 : Int) ≠ 0 by omega)
  have c1 := Int.emod_lt_of_pos (cell ns 0) (show (0 : Int) < 8 by omega)
  unfold t_law_k04
  repeat lcg_off
  refine ⟨a, ns, _, rfl, by lcg_sub, by omega, ?_⟩
  repeat lcg_off
  refine ⟨a, ns, _, rfl, by lcg_sub, by omega, ?_⟩
  repeat lcg_off
  refine k_ifset (fun v => ∃ n : Nat, v = .int n ∧ 1 ≤ n ∧ n ≤ 40) rfl (fun _ => ⟨.int 30, ⟨30, rfl, by omega, by omega⟩, fun Q q => by (repeat lcg_off); exact q⟩) (fun _ => ⟨(1 + cell ns 0 % 8).toNat, ?_, by omega, by omega⟩) ?_
  · rw [Int.toNat_of_nonneg (by omega)]
  rintro v ⟨n, rfl, hn1, hn2⟩
  repeat lcg_off
  refine ⟨a, ns, 1, n, rfl, by lcg_sub, by omega, by omega, by omega, ?_⟩
  intro b H1 hb e1 h1
  rw [Int.toNat_natCast] at h1
  have hR := belM_riv ns 1 hn2
  have hL := belM_len ns 1 n
  generalize belM ns 1 n = B at h1 hR hL
  have en : n = B.length + 1 := by omega
  repeat lcg_off
  refine ⟨a, ns, 9, n, rfl, by lcg_sub, by omega, by omega, ?_⟩
  intro y H2 hy e2 h2
  have hYo := yearF_ok ns 9
  generalize yearF ns 9 = Y at h2 hYo
  repeat lcg_off
  intro t H3 ht e3 h3
  repeat lcg_off
  rw [Int.toNat_natCast]
  have hs3 : SqL c.K H3 a (ns.map V.int) := by lcg_sub
  refine k_forR (fun i σ H' => (∃ v1 v2 v3 v4 v5 v6, σ = [some (.ref a), some (.int n), some (.ref b), some (.ref y), some (.ref t), v1, v2, v3, v4, v5, v6]) ∧ But [t] H3 H' ∧ H' t = some (.lst (fV i (takF ns)))) ⟨⟨_, _, _, _, _, _, rfl⟩, (Ext.refl _).but, h3⟩ ?_ ?_
  · rintro i σ H4 hi ⟨⟨v1, v2, v3, v4, v5, v6, rfl⟩, b4, h4⟩
    rw [Int.zero_add]
    show tSeq _ _ _ [some (.ref a), some (.int n), some (.ref b), some (.ref y), some (.ref t), some (.int (i : Int)), v2, v3, v4, v5, v6] _
    have ac4 : Ac H2 H4 := e3.ac.but b4 (by lcg_sub)
    have hs4 : SqL c.K H4 a (ns.map V.int) := ac4.sq ((e1.trans e2).sq hs)
    repeat lcg_off
    refine ⟨a, ns, _, rfl, hs4, by omega, ?_⟩
    repeat lcg_off
    intro q H5 hq e5 h5
    repeat lcg_off
    have hv : atI [V.int (cell ns (18 + (i : Int)) / 4 % 40), V.int (cell ns (18 + (i : Int)) / 4 % 1000001)] (if decide (cell ns (18 + (i : Int)) % 4 = 3) = true then 1 else 0) = some (.int (takF ns i)) := by
      unfold takF
      by_cases z : cell ns (18 + (i : Int)) % 4 = 3
      · rw [if_pos z, decide_eq_true z]
        rfl
      · rw [if_neg z, decide_eq_false z]
        rfl
    refine k_ixL (by lcg_sub) hv ?_
    repeat lcg_off
    refine k_append (by lcg_sub) (sz_lt (by rw [fV_len]; omega)) fun H6 b6 h6 => ?_
    repeat lcg_off
    refine ⟨⟨_, _, _, _, _, _, rfl⟩, (b4.step e5).trans b6, ?_⟩
    rw [h6]
    unfold fV
    rw [List.range_succ, List.map_append]
    rfl
  · rintro σ H4 ⟨⟨v1, v2, v3, v4, v5, v6, rfl⟩, b4, h4⟩
    generalize takF ns = T at h4
    have ac4 : Ac H2 H4 := e3.ac.but b4 (by lcg_sub)
    have h2' : H4 y = some (.lst (fV n Y)) := ac4.g _ _ h2
    have h1' : H4 b = some (.lst (belV B)) := ac4.g _ _ (e2.g _ _ h1)
    have hYr : Year B (fI n Y) := year_fI en hYo
    repeat lcg_off
    have sqy : ∀ {H' : Hp} {z : Addr}, H' z = some (.lst (fV n Y)) → SqL c.K H' z ((fI n Y).map V.int) := fun q => by rw [← fV_fI]; exact SqL.of q
    have sqt : ∀ {H' : Hp} {z : Addr}, H' z = some (.lst (fV n T)) → SqL c.K H' z ((fI n T).map V.int) := fun q => by rw [← fV_fI]; exact SqL.of q
    refine ⟨b, y, t, B, fI n Y, fI n T, rfl, by lcg_sub, hR, sqy h2', sqt h4, by rw [fI_len]; omega, by rw [fI_len]; omega, ?_⟩
    intro d H5 hd e5 h5
    repeat lcg_off
    refine k_mkRiver (by lcg_sub) hR fun x l H6 hx hl hxl e6 A => ?_
    obtain ⟨dx, hx6⟩ := A.ob
    have hl6 := A.li
    repeat lcg_off
    intro y2 H7 hy2 e7 h7
    repeat lcg_off
    intro t2 H8 ht2 e8 h8
    repeat lcg_off
    intro hd9 H9 hhd e9 h9
    repeat lcg_off
    have g2 : H9 y2 = some (.lst (fV n Y)) := by lcg_sub
    have g3 : H9 t2 = some (.lst (fV n T)) := by lcg_sub
    refine ⟨x, l, B, y2, t2, fI n Y, fI n T, rfl, by lcg_sub, sqy g2, sqt g3, by rw [fI_len]; omega, by rw [fI_len, fI_len], fun _ => ?_, fun z => absurd hYr z⟩
    intro f H10 hf e10 h10
    repeat lcg_off
    generalize hFM : flowM B (netM (fI n Y) (fI n T)) = F at h5 h10
    refine ⟨f, d, fI (B.length + 1) F, fI (B.length + 1) F, rfl, by rw [← fV_fI]; lcg_sub, by rw [← fV_fI]; lcg_sub, by rw [fI_len]; omega, ?_⟩
    rw [decide_eq_true rfl]
    repeat lcg_off
    intro w H11 hw e11 h11
    repeat lcg_off
    have fl : ∀ {f : Nat → Int}, (fV n f).all flatV = true := fun {f} => by rw [fV_fI]; exact all_flat_int _
    have lf : ∀ {f : Nat → Int}, laid (.list ((fV n f).map dV)) 1 := fun {f} => by rw [fV_fI]; exact laid_ints _
    have ld : laid (.list [.list ((fV n Y).map dV), .list ((fV n T).map dV)]) 2 := laid_list fun z hz => by
      rcases List.mem_cons.mp hz with rfl | hz
      · exact lf
      · rcases List.mem_cons.mp hz with rfl | hz
        · exact lf
        · cases hz
    refine k_neDs (d := .list [.list ((fV n Y).map dV), .list ((fV n T).map dV)]) (.lst (SqL.of (by lcg_sub)) (.cons (dp_listF (xs := fV n Y) (by lcg_sub) fl) (.cons (dp_listF (xs := fV n T) (by lcg_sub) fl) .nil))) (.lst (SqL.of (by lcg_sub)) (.cons (dp_listF (xs := fV n Y) (by lcg_sub) fl) (.cons (dp_listF (xs := fV n T) (by lcg_sub) fl) .nil))) ld (by decide) ?_
    repeat lcg_off
    refine k_setI (k := 0) (by lcg_sub) (ixN_0 (by rw [fV_len]; omega)) fun H12 b12 h12 => ?_
    repeat lcg_off
    have A12 : RivAt c H12 x l B := by lcg_sub
    have g4 : H12 y = some (.lst (fV n Y)) := by lcg_sub
    have g5 : H12 t = some (.lst (fV n T)) := by lcg_sub
    have g6 : H12 d = some (.lst (fV (B.length + 1) F)) := by lcg_sub
    intro y3 H13 hy3 e13 h13
    repeat lcg_off
    intro t3 H14 ht3 e14 h14
    repeat lcg_off
    have g7 : H14 y3 = some (.lst (fV n Y)) := by lcg_sub
    have g8 : H14 t3 = some (.lst (fV n T)) := by lcg_sub
    refine ⟨x, l, B, y3, t3, fI n Y, fI n T, rfl, by lcg_sub, sqy g7, sqt g8, by rw [fI_len]; omega, by rw [fI_len, fI_len], fun _ => ?_, fun z => absurd hYr z⟩
    intro f2 H15 hf2 e15 h15
    rw [hFM] at h15
    repeat lcg_off
    refine ⟨f2, d, fI (B.length + 1) F, fI (B.length + 1) F, rfl, by rw [← fV_fI]; lcg_sub, by rw [← fV_fI]; lcg_sub, by rw [fI_len]; omega, ?_⟩
    rw [decide_eq_true rfl]
    exact k H15
end
end Rv

end
namespace Rv
open PySem PySem.Spec PyProof.Rows L2
/-! ### the text by places -/
def top (i : Nat) : Stmt := PySem.Challenge.pw_riverdue_k04_flows.main.body.getD i (.Pass ⟨0, 0, 0, 0⟩)
abbrev s_l_cell_at : Stmt := top 13
abbrev N_l_cell_at : List Str := ["script", "k"]
theorem sc_l_cell_at : FnScope N_l_cell_at ["script", "k"] (defScope s_l_cell_at) := ⟨rfl, rfl, rfl, by decide +kernel, rfl, by decide +kernel, by decide +kernel⟩
abbrev s_l_below : Stmt := top 16
abbrev N_l_below : List Str := ["script", "start", "size", "k"]
theorem sc_l_below : FnScope N_l_below ["script", "start", "size"] (defScope s_l_below) := ⟨rfl, rfl, rfl, by decide +kernel, rfl, by decide +kernel, by decide +kernel⟩
abbrev s_l_year : Stmt := top 18
abbrev N_l_year : List Str := ["script", "start", "size", "year", "k", "cell", "inflow"]
theorem sc_l_year : FnScope N_l_year ["script", "start", "size"] (defScope s_l_year) := ⟨rfl, rfl, rfl, by decide +kernel, rfl, by decide +kernel, by decide +kernel⟩
abbrev s_l_way : Stmt := top 17
abbrev N_l_way : List Str := ["below", "point", "found"]
theorem sc_l_way : FnScope N_l_way ["below", "point"] (defScope s_l_way) := ⟨rfl, rfl, rfl, by decide +kernel, rfl, by decide +kernel, by decide +kernel⟩
abbrev s_l_flows : Stmt := top 19
abbrev N_l_flows : List Str := ["below", "year", "taken", "found", "inflow", "point", "other"]
theorem sc_l_flows : FnScope N_l_flows ["below", "year", "taken"] (defScope s_l_flows) := ⟨rfl, rfl, rfl, by decide +kernel, rfl, by decide +kernel, by decide +kernel⟩
abbrev s_River_init : Stmt := inClass (top 9) 0
abbrev N_River_init : List Str := ["self", "below", "point"]
theorem sc_River_init : FnScope N_River_init ["self", "below"] (defScope s_River_init) := ⟨rfl, rfl, rfl, by decide +kernel, rfl, by decide +kernel, by decide +kernel⟩
abbrev s_River_points : Stmt := inClass (top 9) 1
abbrev N_River_points : List Str := ["self"]
theorem sc_River_points : FnScope N_River_points ["self"] (defScope s_River_points) := ⟨rfl, rfl, rfl, by decide +kernel, rfl, by decide +kernel, by decide +kernel⟩
abbrev s_year_of : Stmt := top 10
abbrev N_year_of : List Str := ["river", "year", "inflow"]
theorem sc_year_of : FnScope N_year_of ["river", "year"] (defScope s_year_of) := ⟨rfl, rfl, rfl, by decide +kernel, rfl, by decide +kernel, by decide +kernel⟩
abbrev s_River_below : Stmt := inClass (top 9) 2
abbrev N_River_below : List Str := ["self", "point"]
theorem sc_River_below : FnScope N_River_below ["self", "point"] (defScope s_River_below) := ⟨rfl, rfl, rfl, by decide +kernel, rfl, by decide +kernel, by decide +kernel⟩
abbrev s_flows : Stmt := top 11
abbrev N_flows : List Str := ["river", "year", "taken", "found", "inflow", "out", "back", "point"]
theorem sc_flows : FnScope N_flows ["river", "year", "taken"] (defScope s_flows) := ⟨rfl, rfl, rfl, by decide +kernel, rfl, by decide +kernel, by decide +kernel⟩
abbrev s_l_whole : Stmt := top 14
abbrev N_l_whole : List Str := ["found"]
theorem sc_l_whole : FnScope N_l_whole ["found"] (defScope s_l_whole) := ⟨rfl, rfl, rfl, by decide +kernel, rfl, by decide +kernel, by decide +kernel⟩
abbrev s_l_same : Stmt := top 15
abbrev N_l_same : List Str := ["found", "due", "k"]
theorem sc_l_same : FnScope N_l_same ["found", "due"] (defScope s_l_same) := ⟨rfl, rfl, rfl, by decide +kernel, rfl, by decide +kernel, by decide +kernel⟩
abbrev s_law_k04 : Stmt := top 20
abbrev N_law_k04 : List Str := ["script", "size", "below", "year", "taken", "k", "cell", "due", "river", "handed", "found"]
theorem sc_law_k04 : FnScope N_law_k04 ["script"] (defScope s_law_k04) := ⟨rfl, rfl, rfl, by decide +kernel, rfl, by decide +kernel, by decide +kernel⟩
structure Txt (c : Cs) (mg : Str → Option Value) : Prop where
  b_bool : mg "bool" = none
  b_int : mg "int" = none
  b_isinstance : mg "isinstance" = none
  b_len : mg "len" = none
  b_list : mg "list" = none
  b_range : mg "range" = none
  b_zip : mg "zip" = none
  e_BadRiver : ErIn c.K mg "BadRiver" c.badRiver
  e_BadYear : ErIn c.K mg "BadYear" c.badYear
  e_NoPoint : ErIn c.K mg "NoPoint" c.noPoint
  g_MOST_POINTS : ∃ t, mg "MOST_POINTS" = some (.int 40 t)
  g_MOST_WATER : ∃ t, mg "MOST_WATER" = some (.int 1000000 t)
  riv : RiverT c
  ok : True
section
variable {P : Program} {w : World} {mg : Str → Option Value} {base : Heap} {c : Cs} {f : Addr} {fd : FuncData}
theorem d_l_cell_at (T : Txt c mg)  (F : Fun c.K "_law_cell_at" "_law_cell_at" s_l_cell_at f fd) (hm : mg "_law_cell_at" = some (.ref f)) : FnIn P w c.K mg base 1 "_law_cell_at" ["script", "k"] (sp_l_cell_at c) :=
  fn_by (tt := t_l_cell_at c) F hm (F.binds fun _ _ _ _ _ _ us hl => match us, hl with | [_, _], _ => rfl) sc_l_cell_at (by
    intro vs H Q E h
    unfold sp_l_cell_at at h
    repeat (first | (obtain ⟨rfl, h⟩ := h; exact rfl) | obtain ⟨_, h⟩ := h)) (pure_l_cell_at)
    (fun cdv A outer s H E hr tk po => by exact (pss_cons (ps_if (pt_cmpR op_ltI (pv 1) (pe_callB c_lenS (by rfl) T.b_len (by decide +kernel) (pa_cons (pv 0) pa_nil)) (nomark _)) (pss_one (ps_ret (pe_ix ix_list (pv 0) (pv 1) (fun _ _ => rfl)))) pss_nil)
      (pss_one (ps_ret pe_int))))
theorem d_l_below (T : Txt c mg) (G_l_cell_at : FnIn P w c.K mg base 1 "_law_cell_at" ["script", "k"] (sp_l_cell_at c)) (F : Fun c.K "_law_below" "_law_below" s_l_below f fd) (hm : mg "_law_below" = some (.ref f)) : FnIn P w c.K mg base 2 "_law_below" ["script", "start", "size"] (sp_l_below c) :=
  fn_by (tt := t_l_below c) F hm (F.binds fun _ _ _ _ _ _ us hl => match us, hl with | [_, _, _], _ => rfl) sc_l_below (by
    intro vs H Q E h
    unfold sp_l_below at h
    repeat (first | (obtain ⟨rfl, h⟩ := h; exact rfl) | obtain ⟨_, h⟩ := h)) (pure_l_below)
    (fun cdv A outer s H E hr tk po => by exact (pss_one (ps_ret (pe_op op_cat (pe_lst (pa_cons pe_non pa_nil)) (pe_lc (own := [("k", 3)]) (g := (gName 3)) (by rfl) sc_l_below.nd (pi_range2 rfl T.b_range (pa_cons pe_int (pa_cons (pv 2) pa_nil))) (blkOk_by (own := [("k", 3)]) (N := N_l_below) (sc := defScope s_l_below) (by decide +kernel)) (fun _ _ _ _ _ => (pg_name (i := 3) sc_l_below.nd rfl (Or.inl rfl))) (fun _ _ _ _ _ => pts_nil) (fun _ _ _ _ _ => (pe_op op_modI (pe_fn G_l_cell_at (hr.mono (by decide)) takes0 rfl (pa_cons (pv 0) (pa_cons (pe_op op_addI (pv 1) (pv 3)) pa_nil))) (pv 3))))))))
theorem d_l_year (T : Txt c mg) (G_l_cell_at : FnIn P w c.K mg base 1 "_law_cell_at" ["script", "k"] (sp_l_cell_at c)) (F : Fun c.K "_law_year" "_law_year" s_l_year f fd) (hm : mg "_law_year" = some (.ref f)) : FnIn P w c.K mg base 2 "_law_year" ["script", "start", "size"] (sp_l_year c) :=
  fn_by (tt := t_l_year c) F hm (F.binds fun _ _ _ _ _ _ us hl => match us, hl with | [_, _, _], _ => rfl) sc_l_year (by
    intro vs H Q E h
    unfold sp_l_year at h
    repeat (first | (obtain ⟨rfl, h⟩ := h; exact rfl) | obtain ⟨_, h⟩ := h)) (pure_l_year)
    (fun cdv A outer s H E hr tk po => by exact (pss_cons (ps_set (i := 3) sc_l_year.nd rfl (by first | exact .inl rfl | exact .inr rfl) (pe_lst pa_nil))
      (pss_cons (ps_for po rfl (pi_range1 rfl T.b_range (pa_cons (pv 2) pa_nil)) (pg_name (i := 4) sc_l_year.nd rfl (by first | exact .inl rfl | exact .inr rfl)) (pss_cons (ps_set (i := 5) sc_l_year.nd rfl (by first | exact .inl rfl | exact .inr rfl) (pe_fn G_l_cell_at (hr.mono (by decide)) tk rfl (pa_cons (pv 0) (pa_cons (pe_op op_addI (pv 1) (pv 4)) pa_nil))))
      (pss_cons (ps_set (i := 6) sc_l_year.nd rfl (by first | exact .inl rfl | exact .inr rfl) (pe_op op_modI (pe_op op_divI (pv 5) pe_int) pe_int))
      (pss_cons (ps_if (pt_cmpR op_eq (pe_op op_modI (pv 5) pe_int) pe_int (nomark _)) (pss_one (ps_set (i := 6) sc_l_year.nd rfl (by first | exact .inl rfl | exact .inr rfl) (pe_op op_modI (pe_op op_divI (pv 5) pe_int) pe_int))) pss_nil)
      (pss_one (ps_expr (pe_bm PySem.F.plainAttrs_list PySem.F.slot_list_append PySem.F.type_list_append mt_append (pv 3) (pa_cons (pv 6) pa_nil))))))))
      (pss_one (ps_ret (pv 3))))))
theorem d_l_way (T : Txt c mg)  (F : Fun c.K "_law_way" "_law_way" s_l_way f fd) (hm : mg "_law_way" = some (.ref f)) : FnIn P w c.K mg base 1 "_law_way" ["below", "point"] (sp_l_way c) :=
  fn_by (tt := t_l_way c) F hm (F.binds fun _ _ _ _ _ _ us hl => match us, hl with | [_, _], _ => rfl) sc_l_way (by
    intro vs H Q E h
    unfold sp_l_way at h
    repeat (first | (obtain ⟨rfl, h⟩ := h; exact rfl) | obtain ⟨_, h⟩ := h)) (pure_l_way)
    (fun cdv A outer s H E hr tk po => by exact (pss_cons (ps_set (i := 2) sc_l_way.nd rfl (by first | exact .inl rfl | exact .inr rfl) (pe_lst pa_nil))
      (pss_cons (ps_while po (pt_cmpR op_notNon (pv 1) pe_non (nomark _)) (pss_cons (ps_expr (pe_bm PySem.F.plainAttrs_list PySem.F.slot_list_append PySem.F.type_list_append mt_append (pv 2) (pa_cons (pv 1) pa_nil)))
      (pss_one (ps_set (i := 1) sc_l_way.nd rfl (by first | exact .inl rfl | exact .inr rfl) (pe_ix ix_list (pv 0) (pv 1) (fun _ _ => rfl))))))
      (pss_one (ps_ret (pv 2))))))
theorem d_l_flows (T : Txt c mg) (G_l_way : FnIn P w c.K mg base 1 "_law_way" ["below", "point"] (sp_l_way c)) (F : Fun c.K "_law_flows" "_law_flows" s_l_flows f fd) (hm : mg "_law_flows" = some (.ref f)) : FnIn P w c.K mg base 2 "_law_flows" ["below", "year", "taken"] (sp_l_flows c) :=
  fn_by (tt := t_l_flows c) F hm (F.binds fun _ _ _ _ _ _ us hl => match us, hl with | [_, _, _], _ => rfl) sc_l_flows (by
    intro vs H Q E h
    unfold sp_l_flows at h
    repeat (first | (obtain ⟨rfl, h⟩ := h; exact rfl) | obtain ⟨_, h⟩ := h)) (pure_l_flows)
    (fun cdv A outer s H E hr tk po => by exact (pss_cons (ps_setLc (i := 3) (own := [("inflow", 4)]) (g := (gName 4)) (by rfl) sc_l_flows.nd rfl rfl (sw_true rfl rfl rfl (by decide +kernel)) (pi_list (pv 1)) (blkOk_by (own := [("inflow", 4)]) (N := N_l_flows) (sc := defScope s_l_flows) (by decide +kernel)) (fun _ _ _ _ _ => (pg_name (i := 4) sc_l_flows.nd rfl (Or.inl rfl))) (fun _ _ _ _ _ => pts_nil) (fun _ _ _ _ _ => pe_int))
      (pss_cons (ps_for po rfl (pi_range1 rfl T.b_range (pa_cons (pe_callB c_lenS (by rfl) T.b_len (by decide +kernel) (pa_cons (pv 1) pa_nil)) pa_nil)) (pg_name (i := 5) sc_l_flows.nd rfl (by first | exact .inl rfl | exact .inr rfl)) (pss_one (ps_for po rfl (pi_list (pe_fn G_l_way (hr.mono (by decide)) tk rfl (pa_cons (pv 0) (pa_cons (pv 5) pa_nil)))) (pg_name (i := 6) sc_l_flows.nd rfl (by first | exact .inl rfl | exact .inr rfl)) (pss_one (ps_asg (pe_op op_subI (pe_op op_addI (pe_ix ix_list (pv 3) (pv 6) (fun _ _ => rfl)) (pe_ix ix_list (pv 1) (pv 5) (fun _ _ => rfl))) (pe_ix ix_list (pv 2) (pv 5) (fun _ _ => rfl))) (pg_sub (pv 3) (pv 6) set_list))))))
      (pss_one (ps_ret (pv 3))))))
theorem d_River_init (T : Txt c mg)  (F : Fun c.K "__init__" "River.__init__" s_River_init f fd) (hM : Mk c.K c.river f) (hm : mg "River" = some (.ref c.river)) : MkIn P w c.K mg base 1 "River" c.river ["self", "below"] (sp_River_init c) :=
  mk_by (tt := t_River_init c) F hM hm (F.binds fun _ _ _ _ _ _ us hl => match us, hl with | [_, _], _ => rfl) sc_River_init (by
    intro vs H Q E h
    unfold sp_River_init at h
    repeat (first | (obtain ⟨rfl, h⟩ := h; exact rfl) | obtain ⟨_, h⟩ := h)) (pure_River_init T.riv)
    (fun cdv A outer s H E hr tk po => by exact (pss_cons (ps_if (PW.pt (pw_or (pt_not (pt_chain op_leI op_leI pe_int (pe_callB c_lenS (by rfl) T.b_len (by decide +kernel) (pa_cons (pv 1) pa_nil)) (pe_gI rfl T.g_MOST_POINTS))) (pw_or1 (pt_cmpR op_notNon (pe_ix ix_list (pv 1) pe_int (fun _ _ => rfl)) pe_non (nomark _))))) (pss_one (ps_rz rfl T.e_BadRiver tk rfl)) pss_nil)
      (pss_cons (ps_for po rfl (pi_range2 rfl T.b_range (pa_cons pe_int (pa_cons (pe_callB c_lenS (by rfl) T.b_len (by decide +kernel) (pa_cons (pv 1) pa_nil)) pa_nil))) (pg_name (i := 2) sc_River_init.nd rfl (by first | exact .inl rfl | exact .inr rfl)) (pss_one (ps_if (PW.pt (pw_or (pt_cmpR op_isNon (pe_ix ix_list (pv 1) (pv 2) (fun _ _ => rfl)) pe_non (nomark _)) (pw_or1 (pt_not (pt_chain op_leI op_ltI pe_int (pe_ix ix_list (pv 1) (pv 2) (fun _ _ => rfl)) (pv 2)))))) (pss_one (ps_rz rfl T.e_BadRiver tk rfl)) pss_nil)))
      (pss_one (ps_fld (pv 0) (pe_callTy c_list (by rfl) T.b_list (by decide +kernel) (pa_cons (pv 1) pa_nil)) rfl)))))
theorem d_River_points (T : Txt c mg)  (F : Fun c.K "points" "River.points" s_River_points f fd) (hM : Meth c.K c.river "points" f) : MeIn P w c.K mg base 1 c.river "points" ["self"] (sp_River_points c) :=
  me_by (tt := t_River_points c) F hM T.riv.cl (F.binds fun _ _ _ _ _ _ us hl => match us, hl with | [_], _ => rfl) sc_River_points (by
    intro vs H Q E h
    unfold sp_River_points at h
    repeat (first | (obtain ⟨rfl, h⟩ := h; exact rfl) | obtain ⟨_, h⟩ := h)) (pure_River_points T.riv)
    (fun cdv A outer s H E hr tk po => by exact (pss_one (ps_ret (pe_callB c_lenS (by rfl) T.b_len (by decide +kernel) (pa_cons (pe_fld (pv 0) rfl) pa_nil)))))
theorem d_year_of (T : Txt c mg) (G_River_points : MeIn P w c.K mg base 1 c.river "points" ["self"] (sp_River_points c)) (F : Fun c.K "year_of" "year_of" s_year_of f fd) (hm : mg "year_of" = some (.ref f)) : FnIn P w c.K mg base 2 "year_of" ["river", "year"] (sp_year_of c) :=
  fn_by (tt := t_year_of c) F hm (F.binds fun _ _ _ _ _ _ us hl => match us, hl with | [_, _], _ => rfl) sc_year_of (by
    intro vs H Q E h
    unfold sp_year_of at h
    repeat (first | (obtain ⟨rfl, h⟩ := h; exact rfl) | obtain ⟨_, h⟩ := h)) (pure_year_of)
    (fun cdv A outer s H E hr tk po => by exact (pss_cons (ps_if (pt_cmpR op_ne (pe_callB c_lenS (by rfl) T.b_len (by decide +kernel) (pa_cons (pv 1) pa_nil)) (pe_me0 G_River_points (hr.mono (by decide)) tk (pv 0)) (nomark _)) (pss_one (ps_rz rfl T.e_BadYear tk rfl)) pss_nil)
      (pss_one (ps_for po rfl (pi_list (pv 1)) (pg_name (i := 2) sc_year_of.nd rfl (by first | exact .inl rfl | exact .inr rfl)) (pss_one (ps_if (pt_not (pt_chain op_leI op_leI pe_int (pv 2) (pe_gI rfl T.g_MOST_WATER))) (pss_one (ps_rz rfl T.e_BadYear tk rfl)) pss_nil))))))
theorem d_River_below (T : Txt c mg)  (F : Fun c.K "below" "River.below" s_River_below f fd) (hM : Meth c.K c.river "below" f) : MeIn P w c.K mg base 1 c.river "below" ["self", "point"] (sp_River_below c) :=
  me_by (tt := t_River_below c) F hM T.riv.cl (F.binds fun _ _ _ _ _ _ us hl => match us, hl with | [_, _], _ => rfl) sc_River_below (by
    intro vs H Q E h
    unfold sp_River_below at h
    repeat (first | (obtain ⟨rfl, h⟩ := h; exact rfl) | obtain ⟨_, h⟩ := h)) (pure_River_below T.riv)
    (fun cdv A outer s H E hr tk po => by exact (pss_cons (ps_if (pt_not (pt_chain op_leI op_ltI pe_int (pv 1) (pe_callB c_lenS (by rfl) T.b_len (by decide +kernel) (pa_cons (pe_fld (pv 0) rfl) pa_nil)))) (pss_one (ps_rz rfl T.e_NoPoint tk rfl)) pss_nil)
      (pss_one (ps_ret (pe_ix ix_list (pe_fld (pv 0) rfl) (pv 1) (fun _ _ => rfl))))))
theorem d_flows (T : Txt c mg) (G_year_of : FnIn P w c.K mg base 2 "year_of" ["river", "year"] (sp_year_of c)) (G_River_points : MeIn P w c.K mg base 1 c.river "points" ["self"] (sp_River_points c)) (G_River_below : MeIn P w c.K mg base 1 c.river "below" ["self", "point"] (sp_River_below c)) (F : Fun c.K "flows" "flows" s_flows f fd) (hm : mg "flows" = some (.ref f)) : FnIn P w c.K mg base 3 "flows" ["river", "year", "taken"] (sp_flows c) :=
  fn_by (tt := t_flows c) F hm (F.binds fun _ _ _ _ _ _ us hl => match us, hl with | [_, _, _], _ => rfl) sc_flows (by
    intro vs H Q E h
    unfold sp_flows at h
    repeat (first | (obtain ⟨rfl, h⟩ := h; exact rfl) | obtain ⟨_, h⟩ := h)) (pure_flows)
    (fun cdv A outer s H E hr tk po => by exact (pss_cons (ps_expr (pe_fn G_year_of (hr.mono (by decide)) tk rfl (pa_cons (pv 0) (pa_cons (pv 1) pa_nil))))
      (pss_cons (ps_setLc (i := 3) (own := [("inflow", 4), ("out", 5)]) (g := (gTup c.K 2 (gCons (gName 4) (gCons (gName 5) gNil)))) (by rfl) sc_flows.nd rfl rfl (sw_true rfl rfl rfl (by decide +kernel)) (pi_zip (by rfl) T.b_zip (pa_cons (pv 1) (pa_cons (pv 2) pa_nil))) (blkOk_by (own := [("inflow", 4), ("out", 5)]) (N := N_flows) (sc := defScope s_flows) (by decide +kernel)) (fun _ _ _ _ _ => (pg_tup rfl (pgs_cons (pg_name (i := 4) sc_flows.nd rfl (Or.inl rfl)) (pgs_cons (pg_name (i := 5) sc_flows.nd rfl (Or.inl rfl)) pgs_nil)))) (fun _ _ _ _ _ => pts_nil) (fun _ _ _ _ _ => (pe_op op_subI (pv 4) (pv 5))))
      (pss_cons (ps_for po rfl (pi_range1 rfl T.b_range (pa_cons (pe_op op_subI (pe_me0 G_River_points (hr.mono (by decide)) tk (pv 0)) pe_int) pa_nil)) (pg_name (i := 6) sc_flows.nd rfl (by first | exact .inl rfl | exact .inr rfl)) (pss_cons (ps_set (i := 7) sc_flows.nd rfl (by first | exact .inl rfl | exact .inr rfl) (pe_op op_subI (pe_op op_subI (pe_me0 G_River_points (hr.mono (by decide)) tk (pv 0)) pe_int) (pv 6)))
      (pss_one (ps_asg (pe_op op_addI (pe_ix ix_list (pv 3) (pe_me G_River_below (hr.mono (by decide)) tk (pv 0) (pa_cons (pv 7) pa_nil)) (fun _ _ => rfl)) (pe_ix ix_list (pv 3) (pv 7) (fun _ _ => rfl))) (pg_sub (pv 3) (pe_me G_River_below (hr.mono (by decide)) tk (pv 0) (pa_cons (pv 7) pa_nil)) set_list)))))
      (pss_one (ps_ret (pv 3)))))))
theorem d_l_whole (T : Txt c mg)  (F : Fun c.K "_law_whole" "_law_whole" s_l_whole f fd) (hm : mg "_law_whole" = some (.ref f)) : FnIn P w c.K mg base 1 "_law_whole" ["found"] (sp_l_whole c) :=
  fn_by (tt := t_l_whole c) F hm (F.binds fun _ _ _ _ _ _ us hl => match us, hl with | [_], _ => rfl) sc_l_whole (by
    intro vs H Q E h
    unfold sp_l_whole at h
    repeat (first | (obtain ⟨rfl, h⟩ := h; exact rfl) | obtain ⟨_, h⟩ := h)) (pure_l_whole)
    (fun cdv A outer s H E hr tk po => by exact (pss_one (ps_ret (pe_and (pe_callB c_isB (by rfl) T.b_isinstance (by decide +kernel) (pa_cons (pv 0) (pa_cons (pe_bltn (by rfl) T.b_int (by decide +kernel) rfl) pa_nil))) (pe_one (pe_not (pe_callB c_isB (by rfl) T.b_isinstance (by decide +kernel) (pa_cons (pv 0) (pa_cons (pe_bltn (by rfl) T.b_bool (by decide +kernel) rfl) pa_nil)))))))))
theorem d_l_same (T : Txt c mg) (G_l_whole : FnIn P w c.K mg base 1 "_law_whole" ["found"] (sp_l_whole c)) (F : Fun c.K "_law_same" "_law_same" s_l_same f fd) (hm : mg "_law_same" = some (.ref f)) : FnIn P w c.K mg base 2 "_law_same" ["found", "due"] (sp_l_same c) :=
  fn_by (tt := t_l_same c) F hm (F.binds fun _ _ _ _ _ _ us hl => match us, hl with | [_, _], _ => rfl) sc_l_same (by
    intro vs H Q E h
    unfold sp_l_same at h
    repeat (first | (obtain ⟨rfl, h⟩ := h; exact rfl) | obtain ⟨_, h⟩ := h)) (pure_l_same)
    (fun cdv A outer s H E hr tk po => by exact (pss_cons (ps_if (PW.pt (pw_or (pt_not (pt_val (pe_callB c_isB (by rfl) T.b_isinstance (by decide +kernel) (pa_cons (pv 0) (pa_cons (pe_bltn (by rfl) T.b_list (by decide +kernel) rfl) pa_nil))))) (pw_or1 (pt_cmpR op_ne (pe_callB c_lenS (by rfl) T.b_len (by decide +kernel) (pa_cons (pv 0) pa_nil)) (pe_callB c_lenS (by rfl) T.b_len (by decide +kernel) (pa_cons (pv 1) pa_nil)) (nomark _))))) (pss_one (ps_ret pe_bl)) pss_nil)
      (pss_cons (ps_for po rfl (pi_range1 rfl T.b_range (pa_cons (pe_callB c_lenS (by rfl) T.b_len (by decide +kernel) (pa_cons (pv 1) pa_nil)) pa_nil)) (pg_name (i := 2) sc_l_same.nd rfl (by first | exact .inl rfl | exact .inr rfl)) (pss_one (ps_if (PW.pt (pw_or (pt_not (pt_val (pe_fn G_l_whole (hr.mono (by decide)) tk rfl (pa_cons (pe_ix ix_list (pv 0) (pv 2) (fun _ _ => rfl)) pa_nil)))) (pw_or1 (pt_cmpR op_ne (pe_ix ix_list (pv 0) (pv 2) (fun _ _ => rfl)) (pe_ix ix_list (pv 1) (pv 2) (fun _ _ => rfl)) (nomark _))))) (pss_one (ps_ret pe_bl)) pss_nil)))
      (pss_one (ps_ret pe_bl)))))
theorem d_law_k04 (T : Txt c mg) (G_l_cell_at : FnIn P w c.K mg base 1 "_law_cell_at" ["script", "k"] (sp_l_cell_at c)) (G_l_below : FnIn P w c.K mg base 2 "_law_below" ["script", "start", "size"] (sp_l_below c)) (G_l_year : FnIn P w c.K mg base 2 "_law_year" ["script", "start", "size"] (sp_l_year c)) (G_l_flows : FnIn P w c.K mg base 2 "_law_flows" ["below", "year", "taken"] (sp_l_flows c)) (G_River_init : MkIn P w c.K mg base 1 "River" c.river ["self", "below"] (sp_River_init c)) (G_flows : FnIn P w c.K mg base 3 "flows" ["river", "year", "taken"] (sp_flows c)) (G_l_same : FnIn P w c.K mg base 2 "_law_same" ["found", "due"] (sp_l_same c)) (F : Fun c.K "law" "law" s_law_k04 f fd) : FnOk P w c.K mg base (L2.CX P w) 4 f fd ["script"] (sp_law_k04 c) :=
  ok_by (tt := t_law_k04 c) F sc_law_k04 (by
    intro vs H Q E h
    unfold sp_law_k04 at h
    try unfold sp_law at h
    repeat (first | (obtain ⟨rfl, h⟩ := h; exact rfl) | obtain ⟨_, h⟩ := h)) (pure_law_k04)
    (fun cdv A outer s H E hr tk po => by exact (pss_cons (ps_set (i := 1) sc_law_k04.nd rfl (by first | exact .inl rfl | exact .inr rfl) (pe_op op_addI pe_int (pe_op op_modI (pe_fn G_l_cell_at (hr.mono (by decide)) tk rfl (pa_cons (pv 0) (pa_cons pe_int pa_nil))) pe_int)))
      (pss_cons (ps_if (pt_cmpR op_eq (pe_op op_modI (pe_op op_divI (pe_fn G_l_cell_at (hr.mono (by decide)) tk rfl (pa_cons (pv 0) (pa_cons pe_int pa_nil))) pe_int) pe_int) pe_int (nomark _)) (pss_one (ps_set (i := 1) sc_law_k04.nd rfl (by first | exact .inl rfl | exact .inr rfl) pe_int)) pss_nil)
      (pss_cons (ps_set (i := 2) sc_law_k04.nd rfl (by first | exact .inl rfl | exact .inr rfl) (pe_fn G_l_below (hr.mono (by decide)) tk rfl (pa_cons (pv 0) (pa_cons pe_int (pa_cons (pv 1) pa_nil)))))
      (pss_cons (ps_set (i := 3) sc_law_k04.nd rfl (by first | exact .inl rfl | exact .inr rfl) (pe_fn G_l_year (hr.mono (by decide)) tk rfl (pa_cons (pv 0) (pa_cons pe_int (pa_cons (pv 1) pa_nil)))))
      (pss_cons (ps_set (i := 4) sc_law_k04.nd rfl (by first | exact .inl rfl | exact .inr rfl) (pe_lst pa_nil))
      (pss_cons (ps_for po rfl (pi_range1 rfl T.b_range (pa_cons (pv 1) pa_nil)) (pg_name (i := 5) sc_law_k04.nd rfl (by first | exact .inl rfl | exact .inr rfl)) (pss_cons (ps_set (i := 6) sc_law_k04.nd rfl (by first | exact .inl rfl | exact .inr rfl) (pe_fn G_l_cell_at (hr.mono (by decide)) tk rfl (pa_cons (pv 0) (pa_cons (pe_op op_addI pe_int (pv 5)) pa_nil))))
      (pss_one (ps_expr (pe_bm PySem.F.plainAttrs_list PySem.F.slot_list_append PySem.F.type_list_append mt_append (pv 4) (pa_cons (pe_ix ix_list (pe_lst (pa_cons (pe_op op_modI (pe_op op_divI (pv 6) pe_int) pe_int) (pa_cons (pe_op op_modI (pe_op op_divI (pv 6) pe_int) pe_int) pa_nil))) (pe_callTy c_int1 (by rfl) T.b_int (by decide +kernel) (pa_cons (pe_cmpR op_eq (pe_op op_modI (pv 6) pe_int) pe_int (nomark _)) pa_nil)) (fun _ _ => rfl)) pa_nil))))))
      (pss_cons (ps_set (i := 7) sc_law_k04.nd rfl (by first | exact .inl rfl | exact .inr rfl) (pe_fn G_l_flows (hr.mono (by decide)) tk rfl (pa_cons (pv 2) (pa_cons (pv 3) (pa_cons (pv 4) pa_nil)))))
      (pss_cons (ps_set (i := 8) sc_law_k04.nd rfl (by first | exact .inl rfl | exact .inr rfl) (pe_mk G_River_init (hr.mono (by decide)) tk rfl (pa_cons (pv 2) pa_nil)))
      (pss_cons (ps_set (i := 9) sc_law_k04.nd rfl (by first | exact .inl rfl | exact .inr rfl) (pe_lst (pa_cons (pe_callTy c_list (by rfl) T.b_list (by decide +kernel) (pa_cons (pv 3) pa_nil)) (pa_cons (pe_callTy c_list (by rfl) T.b_list (by decide +kernel) (pa_cons (pv 4) pa_nil)) pa_nil))))
      (pss_cons (ps_set (i := 10) sc_law_k04.nd rfl (by first | exact .inl rfl | exact .inr rfl) (pe_fn G_flows (hr.mono (by decide)) tk rfl (pa_cons (pv 8) (pa_cons (pe_ix ix_list (pv 9) pe_int (fun _ _ => rfl)) (pa_cons (pe_ix ix_list (pv 9) pe_int (fun _ _ => rfl)) pa_nil)))))
      (pss_cons (ps_if (PW.pt (pw_or (pt_not (pt_val (pe_fn G_l_same (hr.mono (by decide)) tk rfl (pa_cons (pv 10) (pa_cons (pv 7) pa_nil))))) (pw_or1 (pt_cmpR (op_neD hr.units) (pv 9) (pe_lst (pa_cons (pv 3) (pa_cons (pv 4) pa_nil))) (nomark _))))) (pss_one (ps_ret pe_bl)) pss_nil)
      (pss_cons (ps_asg pe_int (pg_sub (pv 10) pe_int set_list))
      (pss_one (ps_ret (pe_fn G_l_same (hr.mono (by decide)) tk rfl (pa_cons (pe_fn G_flows (hr.mono (by decide)) tk rfl (pa_cons (pv 8) (pa_cons (pe_callTy c_list (by rfl) T.b_list (by decide +kernel) (pa_cons (pv 3) pa_nil)) (pa_cons (pe_callTy c_list (by rfl) T.b_list (by decide +kernel) (pa_cons (pv 4) pa_nil)) pa_nil)))) (pa_cons (pv 7) pa_nil))))))))))))))))))
end
theorem all_mk {l : PySem.W.OpenLaw} {w : World} {K : PySem.W.Frag} {h : Heap} {mg : Str → Option Value} {fa : Addr} (X : K.In h) (G : h.Ns mainGlobals mg) (hfa : mg "law" = some (.ref fa))
    {C_River E_BadRiver E_BadYear E_NoPoint f_l_cell_at f_l_below f_l_year f_l_way f_l_flows f_River_init f_River_points f_year_of f_River_below f_flows f_l_whole f_l_same f_law_k04 : Addr}
    {t_MOST_POINTS : Tok}
    {t_MOST_WATER : Tok}
    {od0 an0 : Option Addr} {sl0 : Array (Option Value)} {oc0 kV0 dc0 pm0 cd0 ct0 : Value}
    {od1 an1 : Option Addr} {sl1 : Array (Option Value)} {oc1 kV1 dc1 pm1 cd1 ct1 : Value}
    {od2 an2 : Option Addr} {sl2 : Array (Option Value)} {oc2 kV2 dc2 pm2 cd2 ct2 : Value}
    {od3 an3 : Option Addr} {sl3 : Array (Option Value)} {oc3 kV3 dc3 pm3 cd3 ct3 : Value}
    {od4 an4 : Option Addr} {sl4 : Array (Option Value)} {oc4 kV4 dc4 pm4 cd4 ct4 : Value}
    {od5 an5 : Option Addr} {sl5 : Array (Option Value)} {oc5 kV5 dc5 pm5 cd5 ct5 : Value}
    {od6 an6 : Option Addr} {sl6 : Array (Option Value)} {oc6 kV6 dc6 pm6 cd6 ct6 : Value}
    {od7 an7 : Option Addr} {sl7 : Array (Option Value)} {oc7 kV7 dc7 pm7 cd7 ct7 : Value}
    {od8 an8 : Option Addr} {sl8 : Array (Option Value)} {oc8 kV8 dc8 pm8 cd8 ct8 : Value}
    {od9 an9 : Option Addr} {sl9 : Array (Option Value)} {oc9 kV9 dc9 pm9 cd9 ct9 : Value}
    {od10 an10 : Option Addr} {sl10 : Array (Option Value)} {oc10 kV10 dc10 pm10 cd10 ct10 : Value}
    {od11 an11 : Option Addr} {sl11 : Array (Option Value)} {oc11 kV11 dc11 pm11 cd11 ct11 : Value}
    {od12 an12 : Option Addr} {sl12 : Array (Option Value)} {oc12 kV12 dc12 pm12 cd12 ct12 : Value}
    (z_bool : PySem.W.nsIn K mainGlobals "bool" = some none)
    (z_int : PySem.W.nsIn K mainGlobals "int" = some none)
    (z_isinstance : PySem.W.nsIn K mainGlobals "isinstance" = some none)
    (z_len : PySem.W.nsIn K mainGlobals "len" = some none)
    (z_list : PySem.W.nsIn K mainGlobals "list" = some none)
    (z_range : PySem.W.nsIn K mainGlobals "range" = some none)
    (z_zip : PySem.W.nsIn K mainGlobals "zip" = some none)
    (g_MOST_POINTS : PySem.W.nsIn K mainGlobals "MOST_POINTS" = some (some (.int 40 t_MOST_POINTS)))
    (g_MOST_WATER : PySem.W.nsIn K mainGlobals "MOST_WATER" = some (some (.int 1000000 t_MOST_WATER)))
    (a_River : PySem.W.nsIn K mainGlobals "River" = some (some (.ref C_River)))
    (pg_River : PySem.W.plainGet K C_River Str.empty = true)
    (hd_River : PySem.W.hasDictIn K C_River = true)
    (po_River : PySem.W.plainOver K C_River = true)
    (sa_River : PySem.W.findIn K (.ref C_River) "__setattr__" = some (some (.builtin "object.__setattr__")))
    (mk_River : PySem.W.makesIn K C_River = true)
    (kc_River : PySem.W.keepIn K (.ref C_River) = true)
    (n_River_lower : PySem.W.findIn K (.ref C_River) "lower" = some none)
    (a_BadRiver : PySem.W.nsIn K mainGlobals "BadRiver" = some (some (.ref E_BadRiver)))
    (x_BadRiver : PySem.W.excIn K E_BadRiver [.type "ValueError", .type "Exception", .type "BaseException", .type "object"] "ValueError.__new__" = true)
    (k_BadRiver : PySem.W.keepIn K (.ref E_BadRiver) = true)
    (b_BadRiver : PySem.W.subIn K (.ref E_BadRiver) (.type "BaseException") = some true)
    (t_BadRiver : PySem.W.typeIn K (.ref E_BadRiver) = some (.type "type"))
    (i_BadRiver : PySem.W.isClsIn K E_BadRiver = true)
    (a_BadYear : PySem.W.nsIn K mainGlobals "BadYear" = some (some (.ref E_BadYear)))
    (x_BadYear : PySem.W.excIn K E_BadYear [.type "ValueError", .type "Exception", .type "BaseException", .type "object"] "ValueError.__new__" = true)
    (k_BadYear : PySem.W.keepIn K (.ref E_BadYear) = true)
    (b_BadYear : PySem.W.subIn K (.ref E_BadYear) (.type "BaseException") = some true)
    (t_BadYear : PySem.W.typeIn K (.ref E_BadYear) = some (.type "type"))
    (i_BadYear : PySem.W.isClsIn K E_BadYear = true)
    (a_NoPoint : PySem.W.nsIn K mainGlobals "NoPoint" = some (some (.ref E_NoPoint)))
    (x_NoPoint : PySem.W.excIn K E_NoPoint [.type "ValueError", .type "Exception", .type "BaseException", .type "object"] "ValueError.__new__" = true)
    (k_NoPoint : PySem.W.keepIn K (.ref E_NoPoint) = true)
    (b_NoPoint : PySem.W.subIn K (.ref E_NoPoint) (.type "BaseException") = some true)
    (t_NoPoint : PySem.W.typeIn K (.ref E_NoPoint) = some (.type "type"))
    (i_NoPoint : PySem.W.isClsIn K E_NoPoint = true)
    (a0 : PySem.W.nsIn K mainGlobals "_law_cell_at" = some (some (.ref f_l_cell_at)))
    (l0 : K.lookup f_l_cell_at = some ⟨oc0, od0, .func (PySem.W.fnOf "_law_cell_at" "_law_cell_at" (defArgs s_l_cell_at) (defBody s_l_cell_at) (defScope s_l_cell_at) .none kV0 dc0 pm0 an0 cd0 ct0), sl0⟩)
    (c0 : PySem.W.codeIn K cd0 "_law_cell_at" = true)
    (k0 : PySem.W.keepIn K (.ref f_l_cell_at) = true)
    (a1 : PySem.W.nsIn K mainGlobals "_law_below" = some (some (.ref f_l_below)))
    (l1 : K.lookup f_l_below = some ⟨oc1, od1, .func (PySem.W.fnOf "_law_below" "_law_below" (defArgs s_l_below) (defBody s_l_below) (defScope s_l_below) .none kV1 dc1 pm1 an1 cd1 ct1), sl1⟩)
    (c1 : PySem.W.codeIn K cd1 "_law_below" = true)
    (k1 : PySem.W.keepIn K (.ref f_l_below) = true)
    (a2 : PySem.W.nsIn K mainGlobals "_law_year" = some (some (.ref f_l_year)))
    (l2 : K.lookup f_l_year = some ⟨oc2, od2, .func (PySem.W.fnOf "_law_year" "_law_year" (defArgs s_l_year) (defBody s_l_year) (defScope s_l_year) .none kV2 dc2 pm2 an2 cd2 ct2), sl2⟩)
    (c2 : PySem.W.codeIn K cd2 "_law_year" = true)
    (k2 : PySem.W.keepIn K (.ref f_l_year) = true)
    (a3 : PySem.W.nsIn K mainGlobals "_law_way" = some (some (.ref f_l_way)))
    (l3 : K.lookup f_l_way = some ⟨oc3, od3, .func (PySem.W.fnOf "_law_way" "_law_way" (defArgs s_l_way) (defBody s_l_way) (defScope s_l_way) .none kV3 dc3 pm3 an3 cd3 ct3), sl3⟩)
    (c3 : PySem.W.codeIn K cd3 "_law_way" = true)
    (k3 : PySem.W.keepIn K (.ref f_l_way) = true)
    (a4 : PySem.W.nsIn K mainGlobals "_law_flows" = some (some (.ref f_l_flows)))
    (l4 : K.lookup f_l_flows = some ⟨oc4, od4, .func (PySem.W.fnOf "_law_flows" "_law_flows" (defArgs s_l_flows) (defBody s_l_flows) (defScope s_l_flows) .none kV4 dc4 pm4 an4 cd4 ct4), sl4⟩)
    (c4 : PySem.W.codeIn K cd4 "_law_flows" = true)
    (k4 : PySem.W.keepIn K (.ref f_l_flows) = true)
    (a5 : PySem.W.findIn K (.ref C_River) "__init__" = some (some (.ref f_River_init)))
    (i5 : PySem.W.isFn K (.ref f_River_init) = true)
    (l5 : K.lookup f_River_init = some ⟨oc5, od5, .func (PySem.W.fnOf "__init__" "River.__init__" (defArgs s_River_init) (defBody s_River_init) (defScope s_River_init) .none kV5 dc5 pm5 an5 cd5 ct5), sl5⟩)
    (c5 : PySem.W.codeIn K cd5 "River.__init__" = true)
    (k5 : PySem.W.keepIn K (.ref f_River_init) = true)
    (a6 : PySem.W.findIn K (.ref C_River) "points" = some (some (.ref f_River_points)))
    (i6 : PySem.W.isFn K (.ref f_River_points) = true)
    (l6 : K.lookup f_River_points = some ⟨oc6, od6, .func (PySem.W.fnOf "points" "River.points" (defArgs s_River_points) (defBody s_River_points) (defScope s_River_points) .none kV6 dc6 pm6 an6 cd6 ct6), sl6⟩)
    (c6 : PySem.W.codeIn K cd6 "River.points" = true)
    (k6 : PySem.W.keepIn K (.ref f_River_points) = true)
    (a7 : PySem.W.nsIn K mainGlobals "year_of" = some (some (.ref f_year_of)))
    (l7 : K.lookup f_year_of = some ⟨oc7, od7, .func (PySem.W.fnOf "year_of" "year_of" (defArgs s_year_of) (defBody s_year_of) (defScope s_year_of) .none kV7 dc7 pm7 an7 cd7 ct7), sl7⟩)
    (c7 : PySem.W.codeIn K cd7 "year_of" = true)
    (k7 : PySem.W.keepIn K (.ref f_year_of) = true)
    (a8 : PySem.W.findIn K (.ref C_River) "below" = some (some (.ref f_River_below)))
    (i8 : PySem.W.isFn K (.ref f_River_below) = true)
    (l8 : K.lookup f_River_below = some ⟨oc8, od8, .func (PySem.W.fnOf "below" "River.below" (defArgs s_River_below) (defBody s_River_below) (defScope s_River_below) .none kV8 dc8 pm8 an8 cd8 ct8), sl8⟩)
    (c8 : PySem.W.codeIn K cd8 "River.below" = true)
    (k8 : PySem.W.keepIn K (.ref f_River_below) = true)
    (a9 : PySem.W.nsIn K mainGlobals "flows" = some (some (.ref f_flows)))
    (l9 : K.lookup f_flows = some ⟨oc9, od9, .func (PySem.W.fnOf "flows" "flows" (defArgs s_flows) (defBody s_flows) (defScope s_flows) .none kV9 dc9 pm9 an9 cd9 ct9), sl9⟩)
    (c9 : PySem.W.codeIn K cd9 "flows" = true)
    (k9 : PySem.W.keepIn K (.ref f_flows) = true)
    (a10 : PySem.W.nsIn K mainGlobals "_law_whole" = some (some (.ref f_l_whole)))
    (l10 : K.lookup f_l_whole = some ⟨oc10, od10, .func (PySem.W.fnOf "_law_whole" "_law_whole" (defArgs s_l_whole) (defBody s_l_whole) (defScope s_l_whole) .none kV10 dc10 pm10 an10 cd10 ct10), sl10⟩)
    (c10 : PySem.W.codeIn K cd10 "_law_whole" = true)
    (k10 : PySem.W.keepIn K (.ref f_l_whole) = true)
    (a11 : PySem.W.nsIn K mainGlobals "_law_same" = some (some (.ref f_l_same)))
    (l11 : K.lookup f_l_same = some ⟨oc11, od11, .func (PySem.W.fnOf "_law_same" "_law_same" (defArgs s_l_same) (defBody s_l_same) (defScope s_l_same) .none kV11 dc11 pm11 an11 cd11 ct11), sl11⟩)
    (c11 : PySem.W.codeIn K cd11 "_law_same" = true)
    (k11 : PySem.W.keepIn K (.ref f_l_same) = true)
    (a12 : PySem.W.nsIn K mainGlobals "law" = some (some (.ref f_law_k04)))
    (l12 : K.lookup f_law_k04 = some ⟨oc12, od12, .func (PySem.W.fnOf "law" "law" (defArgs s_law_k04) (defBody s_law_k04) (defScope s_law_k04) .none kV12 dc12 pm12 an12 cd12 ct12), sl12⟩)
    (c12 : PySem.W.codeIn K cd12 "law" = true)
    (k12 : PySem.W.keepIn K (.ref f_law_k04) = true)
    : ∃ fd : FuncData, (∀ (s : Shared) (v : Value), BindsTo s fd ⟨[v], []⟩ [("script", v)]) ∧ ∀ base : Heap, K.In base → base.Ns mainGlobals mg → FnOk l.prog w K mg base (L2.CX l.prog w) 4 fa fd ["script"] (sp_lawK K) := by
  have e := hfa.symm.trans (PySem.W.mg_of X G a12)
  cases e
  let c : Cs := { K := K, river := C_River, book := 0, office := 0, dueError := 0, badRiver := E_BadRiver, badYear := E_BadYear, noPoint := E_NoPoint, taken := 0, noRight := 0, notShort := 0, tooMuch := 0, unlike := 0, harm := 0, noPond := 0, notBelow := 0, badText := 0 }
  have T : Txt c mg := {
    b_bool := PySem.W.mg_none_of X G z_bool,
    b_int := PySem.W.mg_none_of X G z_int,
    b_isinstance := PySem.W.mg_none_of X G z_isinstance,
    b_len := PySem.W.mg_none_of X G z_len,
    b_list := PySem.W.mg_none_of X G z_list,
    b_range := PySem.W.mg_none_of X G z_range,
    b_zip := PySem.W.mg_none_of X G z_zip,
    e_BadRiver := ⟨PySem.W.mg_of X G a_BadRiver, x_BadRiver, k_BadRiver, b_BadRiver, t_BadRiver⟩,
    e_BadYear := ⟨PySem.W.mg_of X G a_BadYear, x_BadYear, k_BadYear, b_BadYear, t_BadYear⟩,
    e_NoPoint := ⟨PySem.W.mg_of X G a_NoPoint, x_NoPoint, k_NoPoint, b_NoPoint, t_NoPoint⟩,
    g_MOST_POINTS := ⟨t_MOST_POINTS, PySem.W.mg_of X G g_MOST_POINTS⟩,
    g_MOST_WATER := ⟨t_MOST_WATER, PySem.W.mg_of X G g_MOST_WATER⟩,
    riv := ⟨⟨pg_River, hd_River, po_River, sa_River⟩, n_River_lower⟩,
    ok := True.intro }
  refine ⟨PySem.W.fnOf "law" "law" (defArgs s_law_k04) (defBody s_law_k04) (defScope s_law_k04) .none kV12 dc12 pm12 an12 cd12 ct12, fun s v => .of_eq rfl, fun base _ _ => ?_⟩
  have G_l_cell_at := d_l_cell_at (P := l.prog) (w := w) (base := base) (c := c) T  (fun_mk (st := s_l_cell_at) l0 c0 k0) (PySem.W.mg_of X G a0)
  have G_l_below := d_l_below (P := l.prog) (w := w) (base := base) (c := c) T G_l_cell_at (fun_mk (st := s_l_below) l1 c1 k1) (PySem.W.mg_of X G a1)
  have G_l_year := d_l_year (P := l.prog) (w := w) (base := base) (c := c) T G_l_cell_at (fun_mk (st := s_l_year) l2 c2 k2) (PySem.W.mg_of X G a2)
  have G_l_way := d_l_way (P := l.prog) (w := w) (base := base) (c := c) T  (fun_mk (st := s_l_way) l3 c3 k3) (PySem.W.mg_of X G a3)
  have G_l_flows := d_l_flows (P := l.prog) (w := w) (base := base) (c := c) T G_l_way (fun_mk (st := s_l_flows) l4 c4 k4) (PySem.W.mg_of X G a4)
  have G_River_init := d_River_init (P := l.prog) (w := w) (base := base) (c := c) T  (fun_mk (st := s_River_init) l5 c5 k5) ⟨mk_River, a5, i5, kc_River⟩ (PySem.W.mg_of X G a_River)
  have G_River_points := d_River_points (P := l.prog) (w := w) (base := base) (c := c) T  (fun_mk (st := s_River_points) l6 c6 k6) ⟨a6, i6, k6⟩
  have G_year_of := d_year_of (P := l.prog) (w := w) (base := base) (c := c) T G_River_points (fun_mk (st := s_year_of) l7 c7 k7) (PySem.W.mg_of X G a7)
  have G_River_below := d_River_below (P := l.prog) (w := w) (base := base) (c := c) T  (fun_mk (st := s_River_below) l8 c8 k8) ⟨a8, i8, k8⟩
  have G_flows := d_flows (P := l.prog) (w := w) (base := base) (c := c) T G_year_of G_River_points G_River_below (fun_mk (st := s_flows) l9 c9 k9) (PySem.W.mg_of X G a9)
  have G_l_whole := d_l_whole (P := l.prog) (w := w) (base := base) (c := c) T  (fun_mk (st := s_l_whole) l10 c10 k10) (PySem.W.mg_of X G a10)
  have G_l_same := d_l_same (P := l.prog) (w := w) (base := base) (c := c) T G_l_whole (fun_mk (st := s_l_same) l11 c11 k11) (PySem.W.mg_of X G a11)
  exact d_law_k04 (P := l.prog) (w := w) (base := base) (c := c) T G_l_cell_at G_l_below G_l_year G_l_flows G_River_init G_flows G_l_same (fun_mk (st := s_law_k04) l12 c12 k12)
theorem walk {l : PySem.W.OpenLaw} {q : Program} {loose : List Str} {XP : (Str → Option Value) → Heap → Prop} {YP : World → Heap → Prop} {d : DefRec} {K : Params → PySem.W.Frag} (hn : l.most = some 63) (hdf : d.params.defaults = [])
    (hY : ∀ (w : World) (h : Heap), YP w h → (K w.params).In h)
    (F : ∀ (w : World) (mg : Str → Option Value) (fa : Addr) (h : Heap), (K w.params).In h → h.Ns mainGlobals mg → mg d.name = some (.ref fa) →
      ∃ fd : FuncData, (∀ (s : Shared) (u : Value), BindsTo s fd ⟨[u], []⟩ [("script", u)]) ∧ ∀ base : Heap, (K w.params).In base → base.Ns mainGlobals mg → FnOk l.prog w (K w.params) mg base (L2.CX l.prog w) 4 fa fd ["script"] (sp_lawK (K w.params))) :
    PySem.W.WalkO q loose XP YP l.row.toRowW d [] (fun f vs => PySem.call f vs) :=
  L2.walk_of (n := 63) (k := 4) (x := "script") (CX := fun w => L2.CX l.prog w) (sp := fun w => sp_lawK (K w.params)) hn (by decide) hdf ⟨rfl, by decide, by decide⟩ hY F (fun _ _ a ns hl _ hS => ⟨a, ns, rfl, hS, hl, fun _ => rfl⟩) fun _ _ _ _ _ z => by
    obtain ⟨_, _, _, _, _, _, _, _, _, _, _, _, z⟩ := z
    exact z
end Rv
open PySem PySem.W PyProof.Rows
set_option maxRecDepth 100000 in
set_option maxHeartbeats 0 in
theorem PySem.Challenge.cw_riverdue_k04_flows_holds : PySem.Challenge.rw_riverdue_k04_flows.Holds := by
  w_on; o_law; k_head; (case hw => w_witness2)
  k_fill
  refine Rv.walk (l := PySem.Challenge.rw_riverdue_k04_flows) rfl rfl (fun w h Y => PySem.W.kIn_of Y) ?F
  case F =>
    intro w mg fa h KX G hmg
    refine' Rv.all_mk KX G hmg ?z_bool ?z_int ?z_isinstance ?z_len ?z_list ?z_range ?z_zip ?g_MOST_POINTS ?g_MOST_WATER ?a_River ?pg_River ?hd_River ?po_River ?sa_River ?mk_River ?kc_River ?n_River_lower ?a_BadRiver ?x_BadRiver ?k_BadRiver ?b_BadRiver ?t_BadRiver ?i_BadRiver ?a_BadYear ?x_BadYear ?k_BadYear ?b_BadYear ?t_BadYear ?i_BadYear ?a_NoPoint ?x_NoPoint ?k_NoPoint ?b_NoPoint ?t_NoPoint ?i_NoPoint ?a0 ?l0 ?c0 ?k0 ?a1 ?l1 ?c1 ?k1 ?a2 ?l2 ?c2 ?k2 ?a3 ?l3 ?c3 ?k3 ?a4 ?l4 ?c4 ?k4 ?a5 ?i5 ?l5 ?c5 ?k5 ?a6 ?i6 ?l6 ?c6 ?k6 ?a7 ?l7 ?c7 ?k7 ?a8 ?i8 ?l8 ?c8 ?k8 ?a9 ?l9 ?c9 ?k9 ?a10 ?l10 ?c10 ?k10 ?a11 ?l11 ?c11 ?k11 ?a12 ?l12 ?c12 ?k12
    (case z_bool => k_is)
    (case z_int => k_is)
    (case z_isinstance => k_is)
    (case z_len => k_is)
    (case z_list => k_is)
    (case z_range => k_is)
    (case z_zip => k_is)
    (case g_MOST_POINTS => k_is)
    (case g_MOST_WATER => k_is)
    (case a_River => k_is)
    (case pg_River => k_is)
    (case hd_River => k_is)
    (case po_River => k_is)
    (case sa_River => k_is)
    (case mk_River => k_is)
    (case kc_River => k_is)
    (case n_River_lower => k_is)
    (case a_BadRiver => k_is)
    (case x_BadRiver => k_exc)
    (case k_BadRiver => k_is)
    (case b_BadRiver => k_is)
    (case t_BadRiver => k_is)
    (case i_BadRiver => k_is)
    (case a_BadYear => k_is)
    (case x_BadYear => k_exc)
    (case k_BadYear => k_is)
    (case b_BadYear => k_is)
    (case t_BadYear => k_is)
    (case i_BadYear => k_is)
    (case a_NoPoint => k_is)
    (case x_NoPoint => k_exc)
    (case k_NoPoint => k_is)
    (case b_NoPoint => k_is)
    (case t_NoPoint => k_is)
    (case i_NoPoint => k_is)
    (case a0 => k_is)
    (case l0 => k_is)
    (case c0 => k_is)
    (case k0 => k_is)
    (case a1 => k_is)
    (case l1 => k_is)
    (case c1 => k_is)
    (case k1 => k_is)
    (case a2 => k_is)
    (case l2 => k_is)
    (case c2 => k_is)
    (case k2 => k_is)
    (case a3 => k_is)
    (case l3 => k_is)
    (case c3 => k_is)
    (case k3 => k_is)
    (case a4 => k_is)
    (case l4 => k_is)
    (case c4 => k_is)
    (case k4 => k_is)
    (case a5 => k_is)
    (case i5 => k_is)
    (case l5 => k_is)
    (case c5 => k_is)
    (case k5 => k_is)
    (case a6 => k_is)
    (case i6 => k_is)
    (case l6 => k_is)
    (case c6 => k_is)
    (case k6 => k_is)
    (case a7 => k_is)
    (case l7 => k_is)
    (case c7 => k_is)
    (case k7 => k_is)
    (case a8 => k_is)
    (case i8 => k_is)
    (case l8 => k_is)
    (case c8 => k_is)
    (case k8 => k_is)
    (case a9 => k_is)
    (case l9 => k_is)
    (case c9 => k_is)
    (case k9 => k_is)
    (case a10 => k_is)
    (case l10 => k_is)
    (case c10 => k_is)
    (case k10 => k_is)
    (case a11 => k_is)
    (case l11 => k_is)
    (case c11 => k_is)
    (case k11 => k_is)
    (case a12 => k_is)
    (case l12 => k_is)
    (case c12 => k_is)
    (case k12 => k_is)
#print axioms PySem.Challenge.cw_riverdue_k04_flows_holds
