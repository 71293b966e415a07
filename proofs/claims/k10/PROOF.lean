import PyProof.Rows.All
import Wide.All
import OpenK.AllK
import Wide.FinOn
import KE.KStateDown
import KE.KExcIs
import PyProof.Rows.SortShellAny
import HandS.Base
import HandS.Call
import HandS.CallSlots
import HandS.List
import HandS.Comp
import HandS.Ends
import HandS.Dict
import HandS.Iter
import HandS.Text
import HandS.More
import HandS.Words
import HandS.WordsList
import HandS.WordsDict
import HandS.Exc
import HandS.ExcOwn
import HandS.ExcInit
import HandS.TryOnly
import HandS.WordsExc
import HandS.Defaults
import HandS.Flow
import HandS.IsInst
import HandS.Style
import HandS.ExcIs
import HandS.ExcField
import HandS.Evl
import HandS.Wide
import HandS.Walk
import HandS.MakeKw
import HandS.MakeKwOnly
import HandS.Zip
import HandS.Head0
import HandS.Head1
import HandS.Head2
import HandS.HeadEnd
import HandS.HeadHook1
import HandS.HeadHook2
import HandS.Conv
import HandS.Sort
import HandS.SortInts
import HandS.Strs
import HandS.StrMore
import HandS.StrSplit
import HandS.SuiteRaise
import HandS.RaiseFrom
import HandS.HotCalls
import HandS.TryMany
import HandS.Nested
import HandS.Lambda
import HandS.ExcInitHot
import HandS.CallLocal
import HandS.Codes
import HandS.Replace
import HandS.ReplaceLit
import HandS.EndTab
import HandS.HeadHook3
import HandS.HeadHook4
import PySem.Challenge.RW_bellsaway_k10_what_parts_two_fits
set_option Elab.async false
set_option linter.all false
set_option maxRecDepth 100000
set_option maxHeartbeats 4000000
/-! ## own stepping layer: one lemma a reading -/
namespace Vs
open PySem PySem.Spec PyProof.Rows L2

/-! ### frames of heaps -/
/-- all but l stands -/
def Kp (l : Addr) (H H' : Hp) : Prop := ∀ b o, H b = some o → b ≠ l → H' b = some o
theorem Kp.refl (l : Addr) (H : Hp) : Kp l H H := fun _ _ h _ => h
theorem Kp.trans {l : Addr} {H H1 H2 : Hp} (a : Kp l H H1) (b : Kp l H1 H2) : Kp l H H2 := fun x o h n => b x o (a x o h n) n
theorem Kp.upd {l : Addr} {H H1 : Hp} {o : HO} (a : Kp l H H1) : Kp l H (upd H1 l o) := fun x u h n => by rw [upd_ne n]; exact a x u h n
theorem Kp.new {l p : Addr} {H H1 : Hp} {o : HO} (a : Kp l H H1) (hp : H1 p = none) : Kp l H (L2.upd H1 p o) := fun x u h n => by
  have h1 := a x u h n
  rw [upd_ne (ne_of_none h1 hp)]; exact h1
theorem Same.new {p : Addr} {H H1 : Hp} {o : HO} (a : Same H H1) (hp : H1 p = none) : Same H (L2.upd H1 p o) := fun x u h => by
  have h1 := a x u h
  rw [upd_ne (ne_of_none h1 hp)]; exact h1
theorem Kp.updn {l p : Addr} {H H1 : Hp} {o : HO} (a : Kp l H H1) (hp : H p = none) : Kp l H (L2.upd H1 p o) := fun x u h n => by
  have h1 := a x u h n
  rw [upd_ne (ne_of_none h hp)]; exact h1
theorem Same.updn {p : Addr} {H H1 : Hp} {o : HO} (a : Same H H1) (hp : H p = none) : Same H (L2.upd H1 p o) := fun x u h => by
  have h1 := a x u h
  rw [upd_ne (ne_of_none h hp)]; exact h1
theorem Same.kp {l : Addr} {H H1 : Hp} (a : Same H H1) : Kp l H H1 := fun x u h _ => a x u h
theorem Kp.same {l : Addr} {H H1 H2 : Hp} (a : Kp l H H1) (b : Same H1 H2) : Kp l H H2 := fun x o h n => b x o (a x o h n)
theorem Same.kpt {l : Addr} {H H1 H2 : Hp} (a : Same H H1) (b : Kp l H1 H2) : Kp l H H2 := fun x o h n => b x o (a x o h) n
theorem Kp.at {l b : Addr} {H H' : Hp} {o : HO} (k : Kp l H H') (h : H b = some o) (n : b ≠ l) : H' b = some o := k b o h n
theorem free_back {H H' : Hp} {l p : Addr} {o : HO} (k : Kp l H H') (h : H' p = none) (hl : H' l = some o) : H p = none := by
  cases e : H p with
  | none => rfl
  | some u =>
    by_cases n : p = l
    · rw [n, hl] at h; cases h
    · rw [k p u e n] at h; cases h

theorem upd_old {H : Hp} {b p : Addr} {o u : HO} (hp : H p = none) (h : H b = some o) : L2.upd H p u b = some o := by rw [upd_ne (ne_of_none h hp)]; exact h
theorem Kp.seq {K : PySem.W.Frag} {l a : Addr} {H H' : Hp} {xs : List V} (k : Kp l H H') (n : a ≠ l) (h : SqL K H a xs) : SqL K H' a xs := by
  rcases h with (h | ⟨o, h⟩) | h
  · exact .inl (.inl (k _ _ h n))
  · exact .inl (.inr ⟨o, k _ _ h n⟩)
  · exact .inr h
theorem Kp.seqn {K : PySem.W.Frag} {l a : Addr} {H H' : Hp} {xs : List V} (k : Kp l H H') (hl : H l = none) (h : SqL K H a xs) : SqL K H' a xs := by
  rcases h with (h | ⟨o, h⟩) | h
  · exact .inl (.inl (k _ _ h (ne_of_none h hl)))
  · exact .inl (.inr ⟨o, k _ _ h (ne_of_none h hl)⟩)
  · exact .inr h
theorem Same.ofKp {l : Addr} {H H1 H2 : Hp} {o : HO} (s : Same H H1) (hl : H1 l = none) (k : Kp l (L2.upd H1 l o) H2) : Same H H2 := fun b u h => by
  have h1 := s b u h
  have n := ne_of_none h1 hl
  exact k b u (by rw [upd_ne n]; exact h1) n
/-! ### what is new -/
def dif (H H' : Hp) : Hp := fun b => match H b with
  | none => H' b
  | some _ => none
theorem dif_at {H H' : Hp} {b : Addr} {o : HO} (h : H b = none) (h' : H' b = some o) : dif H H' b = some o := by unfold dif; rw [h]; exact h'
theorem dif_none {H H' : Hp} {b : Addr} {o : HO} (h : H b = some o) : dif H H' b = none := by unfold dif; rw [h]
theorem dif_same {H H' : Hp} : Same (dif H H') H' := fun b o h => by
  unfold dif at h
  cases e : H b with
  | none => rw [e] at h; exact h
  | some u => rw [e] at h; cases h
theorem dif_old {H H' : Hp} {b : Addr} {o : HO} (h : dif H H' b = some o) : H b = none := by
  unfold dif at h
  cases e : H b with
  | none => rfl
  | some u => rw [e] at h; cases h
theorem Same.kpn {l : Addr} {P H H' : Hp} (a : Same P H) (k : Kp l H H') (n : P l = none) : Same P H' := fun b o h => k b o (a b o h) (ne_of_none h n)
/-! ### the law's list of cells -/
theorem cutV_len (xs : List V) (lo hi : Option Int) : (cutV xs lo hi).length ≤ xs.length := by
  unfold cutV
  rw [List.length_take, List.length_drop]
  omega
theorem cutV_mem {xs : List V} {lo hi : Option Int} {x : V} (h : x ∈ cutV xs lo hi) : x ∈ xs := List.mem_of_mem_drop (List.mem_of_mem_take h)
theorem cells_int {ns : List Int} {c : Int} {lo hi : Option Int} {x : V} (h : x ∈ [V.int c] ++ cutV (ns.map V.int) lo hi) : ∃ z, x = .int z := by
  rcases List.mem_append.mp h with h | h
  · exact ⟨c, by simpa using h⟩
  · obtain ⟨z, _, e⟩ := List.mem_map.mp (cutV_mem h)
    exact ⟨z, e.symm⟩
theorem cells_len {ns : List Int} {c : Int} {lo hi : Option Int} (h : ns.length ≤ 63) : [V.int c].length + (cutV (ns.map V.int) lo hi).length ≤ sizeLine := by
  have h1 := cutV_len (ns.map V.int) lo hi
  rw [List.length_map] at h1
  have h2 : (64 : Nat) ≤ sizeLine := by rw [sizeLine_eq]; decide
  simp only [List.length_cons, List.length_nil]
  omega
/-! ### readings, one step each -/
section
variable {K : PySem.W.Frag} {σ : L2.St} {H : Hp} {Q : VK} {ta tb te tc : TE} {x y v : V} {r r' : R2} {T U : TT} {B : Bool → Hp → Prop} {D : Ends} {i j : Int}
theorem r_var {n : Nat} (h : σ[n]? = some (some v)) (q : Q v H) : tVar n σ H Q := ⟨v, h, q⟩
theorem r_c (q : Q v H) : tC v σ H Q := q
theorem r_op (q : ta σ H fun x H1 => tb σ H1 fun y H2 => r x y H2 Q) : tOp r ta tb σ H Q := q
theorem r_un {r : V → Hp → VK → Prop} (q : ta σ H fun x H1 => r x H1 Q) : tUn r ta σ H Q := q
theorem r_I0 {g : Int → Int → V} (q : Q (g i j) H) : rI0 g (.int i) (.int j) H Q := ⟨i, j, rfl, rfl, q⟩
theorem r_I {C : Int → Int → Prop} {g : Int → Int → V} (c : C i j) (q : Q (g i j) H) : rI C g (.int i) (.int j) H Q := ⟨i, j, rfl, rfl, c, q⟩
theorem r_U {g : Int → V} (q : Q (g i) H) : rU g (.int i) H Q := ⟨i, rfl, q⟩
theorem r_eqI (q : Q (.bl (decide (i = j))) H) : rEq (.int i) (.int j) H Q := ⟨rfl, by
  have e : decide (V.int i = V.int j) = decide (i = j) := by simp
  rw [e]; exact q⟩
theorem r_neI (q : Q (.bl (!decide (i = j))) H) : rNe (.int i) (.int j) H Q := ⟨rfl, by
  have e : decide (V.int i = V.int j) = decide (i = j) := by simp
  rw [e]; exact q⟩
theorem r_eqB {a b : Bool} (q : Q (.bl (decide (a = b))) H) : rEq (.bl a) (.bl b) H Q := ⟨rfl, by
  have e : decide (V.bl a = V.bl b) = decide (a = b) := by simp
  rw [e]; exact q⟩
theorem r_neB {a b : Bool} (q : Q (.bl (!decide (a = b))) H) : rNe (.bl a) (.bl b) H Q := ⟨rfl, by
  have e : decide (V.bl a = V.bl b) = decide (a = b) := by simp
  rw [e]; exact q⟩
theorem r_eqS {a b : Str} (q : Q (.bl (decide (a = b))) H) : rEq (.str a) (.str b) H Q := ⟨rfl, by
  have e : decide (V.str a = V.str b) = decide (a = b) := by simp
  rw [e]; exact q⟩
theorem r_neS {a b : Str} (q : Q (.bl (!decide (a = b))) H) : rNe (.str a) (.str b) H Q := ⟨rfl, by
  have e : decide (V.str a = V.str b) = decide (a = b) := by simp
  rw [e]; exact q⟩
theorem r_test (q : te σ H fun x H1 => ∃ k, x = .bl k ∧ B k H1) : tTest te σ H B := q
theorem r_tB (q : te σ H fun x H1 => ∃ k, x = .bl k ∧ B k H1) : tB te σ H B := q
theorem r_isbl {k : Bool} {P : Bool → Prop} (q : P k) : ∃ c, V.bl k = .bl c ∧ P c := ⟨k, rfl, q⟩
theorem r_and (q : T σ H fun c H1 => if c = true then U σ H1 B else B false H1) : tAnd T U σ H B := q
theorem r_or (q : T σ H fun c H1 => if c = true then B true H1 else U σ H1 B) : tOr T U σ H B := q
theorem r_not (q : T σ H fun c H1 => B (!c) H1) : tNot T σ H B := q
theorem r_andV (q : ta σ H fun x H1 => ∃ c, x = .bl c ∧ if c = true then tb σ H1 Q else Q (.bl false) H1) : tAndV ta tb σ H Q := q
theorem r_orV (q : ta σ H fun x H1 => ∃ c, x = .bl c ∧ if c = true then Q (.bl true) H1 else tb σ H1 Q) : tOrV ta tb σ H Q := q
theorem r_notV (q : ta σ H fun x H1 => ∃ c, x = .bl c ∧ Q (.bl (!c)) H1) : tNotV ta σ H Q := q
theorem r_if (q : T σ H fun c H1 => if c = true then ta σ H1 Q else tb σ H1 Q) : tIf T ta tb σ H Q := q
theorem r_chain (q : ta σ H fun x H1 => tb σ H1 fun y H2 => r x y H2 fun z H3 => ∃ k, z = .bl k ∧ (if k = true then tc σ H3 fun w' H4 => r' y w' H4 Q else Q (.bl false) H3)) : tChain r r' ta tb tc σ H Q := q
theorem r_nil {A : List V → Hp → Prop} (q : A [] H) : tNil σ H A := q
theorem r_cons {tr : TA} {A : List V → Hp → Prop} (q : ta σ H fun x H1 => tr σ H1 fun xs H2 => A (x :: xs) H2) : tCons ta tr σ H A := q
theorem r_tup {t : TA} (q : t σ H fun xs H1 => xs.length ≤ sizeLine ∧ ∀ p, H1 p = none → Q (.ref p) (upd H1 p (.tup xs))) : tTup t σ H Q := q
theorem r_lst {t : TA} (q : t σ H fun xs H1 => xs.length ≤ sizeLine ∧ ∀ p, H1 p = none → Q (.ref p) (upd H1 p (.lst xs))) : tLst t σ H Q := q
theorem r_size {xs : List V} {P : Prop} (h : xs.length ≤ 1000) (q : P) : xs.length ≤ sizeLine ∧ P := ⟨Nat.le_trans h (by rw [sizeLine_eq]; decide), q⟩
theorem r_call {sp : Sp} {dvs : List V} {E : XK} {t : TA} (q : t σ H fun vs H1 => sp (vs ++ dvs) H1 Q E) : tCall sp dvs E t σ H Q := q
theorem r_call0 {sp : Sp} {E : XK} {t : TA} (q : t σ H fun vs H1 => sp vs H1 Q E) : tCall sp [] E t σ H Q := by
  show t σ H fun vs H1 => sp (vs ++ []) H1 Q E
  have e : (fun vs H1 => sp (vs ++ []) H1 Q E) = fun vs H1 => sp vs H1 Q E := by funext vs H1; rw [List.append_nil]
  rw [e]; exact q
theorem r_cb {r : List V → Hp → VK → Prop} {t : TA} (q : t σ H fun vs H1 => r vs H1 Q) : tCB r t σ H Q := q
theorem r_bm {T : String} {r : V → List V → Hp → VK → Prop} {t : TA} (q : ta σ H fun x H1 => tyV K T x H1 ∧ t σ H1 fun xs H2 => r x xs H2 Q) : tBM K T r ta t σ H Q := q
theorem r_bm0 {T : String} {r : V → List V → Hp → VK → Prop} (q : ta σ H fun x H1 => tyV K T x H1 ∧ r x [] H1 Q) : tBM0 K T r ta σ H Q := q
theorem r_seq {t u : TS} {nx bk ct : L2.St → Hp → Prop} {rt : VK} (q : t (Ends.mk (u (Ends.mk nx rt bk ct)) rt bk ct) σ H) : tSeq t u (Ends.mk nx rt bk ct) σ H := q
theorem r_brk {nx bk ct : L2.St → Hp → Prop} {rt : VK} (q : bk σ H) : tBreak (Ends.mk nx rt bk ct) σ H := q
theorem r_cont {nx bk ct : L2.St → Hp → Prop} {rt : VK} (q : ct σ H) : tCont (Ends.mk nx rt bk ct) σ H := q
theorem r_next {nx bk ct : L2.St → Hp → Prop} {rt : VK} (q : nx σ H) : tNext (Ends.mk nx rt bk ct) σ H := q
theorem r_drop {nx bk ct : L2.St → Hp → Prop} {rt : VK} (q : te σ H fun _ H1 => nx σ H1) : tDrop te (Ends.mk nx rt bk ct) σ H := q
theorem r_ret {nx bk ct : L2.St → Hp → Prop} {rt : VK} (q : te σ H rt) : tRet te (Ends.mk nx rt bk ct) σ H := q
theorem r_retN {nx bk ct : L2.St → Hp → Prop} {rt : VK} (q : rt .non H) : tRetN (Ends.mk nx rt bk ct) σ H := q
theorem r_ifS {t u : TS} (q : T σ H fun b H1 => if b = true then t D σ H1 else u D σ H1) : tIfS T t u D σ H := q
theorem r_asg {g : TG} {nx bk ct : L2.St → Hp → Prop} {rt : VK} (q : te σ H fun x H1 => g x σ H1 nx) : tAsg te g (Ends.mk nx rt bk ct) σ H := q
theorem r_gName {n : Nat} {P : L2.St → Hp → Prop} (q : P (σ.set n (some v)) H) : gName n v σ H P := q
theorem r_gSub {to ti : TE} {t : TSet} {P : L2.St → Hp → Prop} (q : to σ H fun o H1 => ti σ H1 fun i H2 => t o i v H2 fun H3 => P σ H3) : gSub to ti t v σ H P := q
theorem r_sl {r : V → Option Int → Option Int → Hp → VK → Prop} {tl th : TO} (q : te σ H fun x H1 => tl σ H1 fun l H2 => th σ H2 fun u H3 => r x l u H3 Q) : tSl r te tl th σ H Q := q
theorem r_noPart {P : Option Int → Hp → Prop} (q : P none H) : tNoPart σ H P := q
theorem r_part {P : Option Int → Hp → Prop} (q : te σ H fun x H1 => ∃ i, x = .int i ∧ P (some i) H1) : tPart te σ H P := q
theorem r_isint {P : Int → Prop} (q : P i) : ∃ k, V.int i = .int k ∧ P k := ⟨i, rfl, q⟩
theorem r_gTup {n : Nat} {t : TGs} {a : Addr} {xs : List V} {P : L2.St → Hp → Prop} (h : SqT K H a xs) (e : xs.length = n) (q : t xs σ H P) : gTup K n t (.ref a) σ H P := ⟨a, xs, rfl, h, e, q⟩
theorem r_gCons {t : TG} {u : TGs} {vs : List V} {P : L2.St → Hp → Prop} (q : t v σ H fun σ' H' => u vs σ' H' P) : gCons t u (v :: vs) σ H P := ⟨v, vs, rfl, q⟩
theorem r_gNil {P : L2.St → Hp → Prop} (q : P σ H) : gNil [] σ H P := ⟨rfl, q⟩
theorem ite_t {A B : Prop} (h : A) : if true = true then A else B := by rw [if_pos rfl]; exact h
theorem ite_f {A B : Prop} (h : B) : if false = true then A else B := by rw [if_neg Bool.false_ne_true]; exact h
theorem ite_nt {A B : Prop} (h : B) : if (!true) = true then A else B := ite_f h
theorem ite_nf {A B : Prop} (h : A) : if (!false) = true then A else B := ite_t h
theorem ite_y {p : Prop} {i : Decidable p} {A B : Prop} (hp : p) (h : A) : if decide p = true then A else B := by rw [decide_eq_true hp]; exact ite_t h
theorem ite_n {p : Prop} {i : Decidable p} {A B : Prop} (hp : ¬ p) (h : B) : if decide p = true then A else B := by rw [decide_eq_false hp]; exact ite_f h
theorem ite_ny {p : Prop} {i : Decidable p} {A B : Prop} (hp : p) (h : B) : if (!decide p) = true then A else B := by rw [decide_eq_true hp]; exact ite_f h
theorem ite_nn {p : Prop} {i : Decidable p} {A B : Prop} (hp : ¬ p) (h : A) : if (!decide p) = true then A else B := by rw [decide_eq_false hp]; exact ite_t h
theorem ite_d {p : Prop} {i : Decidable p} {A B : Prop} (h1 : p → A) (h2 : ¬ p → B) : if decide p = true then A else B := by
  by_cases h : p
  · exact ite_y h (h1 h)
  · exact ite_n h (h2 h)
theorem ite_nd {p : Prop} {i : Decidable p} {A B : Prop} (h1 : ¬ p → A) (h2 : p → B) : if (!decide p) = true then A else B := by
  by_cases h : p
  · exact ite_ny h (h2 h)
  · exact ite_nn h (h1 h)
theorem upd2 {H : Hp} {a : Addr} {o u : HO} : upd (upd H a o) a u = upd H a u := upd_upd
theorem upd_id {H : Hp} {a : Addr} {o : HO} (h : H a = some o) : upd H a o = H := by
  funext b
  by_cases hb : b = a
  · rw [hb, upd_same, h]
  · rw [upd_ne hb]
theorem q_t {Q : VK} {H : Hp} {p : Prop} {i : Decidable p} (hp : p) (q : Q (.bl true) H) : Q (.bl (@decide p i)) H := by rw [decide_eq_true hp]; exact q
theorem ite_d' {p : Prop} {i : Decidable p} {A B : Prop} (h1 : p → B) (h2 : ¬ p → A) : if (!decide p) = true then A else B := ite_nd h2 h1
theorem ite_bt {b : Bool} {A B : Prop} (h : b = true) (q : A) : if b = true then A else B := by rw [h]; exact ite_t q
theorem ite_bf {b : Bool} {A B : Prop} (h : b = false) (q : B) : if b = true then A else B := by rw [h]; exact ite_f q
theorem q_bl {Q : VK} {H : Hp} {b c : Bool} (h : b = c) (q : Q (.bl b) H) : Q (.bl c) H := h ▸ q
theorem ite_b {b : Bool} {A B : Prop} (h1 : b = true → A) (h2 : b = false → B) : if b = true then A else B := by
  cases b
  · exact ite_f (h2 rfl)
  · exact ite_t (h1 rfl)
/-! items -/
theorem r_ixL {p : Addr} {xs : List V} (h : SqL K H p xs) (ha : atI xs i = some v) (q : Q v H) : rIx K (.ref p) (.int i) H Q := .inl ⟨p, xs, i, v, rfl, rfl, h, ha, q⟩
theorem r_ixT {p : Addr} {xs : List V} (h : SqT K H p xs) (ha : atI xs i = some v) (q : Q v H) : rIx K (.ref p) (.int i) H Q := .inr (.inl ⟨p, xs, i, v, rfl, rfl, h, ha, q⟩)
theorem r_ixS {z : Str} {c : Nat} (h : z.length ≤ sizeLine) (ha : atI z.cps.toList i = some c) (q : Q (.str ⟨#[c]⟩) H) : rIx K (.str z) (.int i) H Q := .inr (.inr ⟨z, i, c, rfl, rfl, h, ha, q⟩)
theorem r_setL {p : Addr} {xs : List V} {n : Nat} {P : Hp → Prop} (h : H p = some (.lst xs)) (e : ixN xs.length i = some n) (q : P (upd H p (.lst (xs.set n v)))) : rSetL (.ref p) (.int i) v H P := ⟨p, xs, i, n, rfl, rfl, h, e, q⟩
theorem r_slL {p : Addr} {xs : List V} {lo hi : Option Int} (h : SqL K H p xs) (q : ∀ a, H a = none → Q (.ref a) (upd H a (.lst (cutV xs lo hi)))) : rSlL K (.ref p) lo hi H Q := ⟨p, xs, rfl, h, q⟩
theorem r_cat {p b : Addr} {xs ys : List V} (h : H p = some (.lst xs)) (h2 : H b = some (.lst ys)) (hl : xs.length + ys.length ≤ sizeLine) (q : ∀ a, H a = none → Q (.ref a) (upd H a (.lst (xs ++ ys)))) : rCat (.ref p) (.ref b) H Q := ⟨p, b, xs, ys, rfl, rfl, h, h2, hl, q⟩
theorem r_app {p : Addr} {xs : List V} (h : H p = some (.lst xs)) (hl : xs.length < sizeLine) (q : Q .non (upd H p (.lst (xs ++ [v])))) : rAppend (.ref p) [v] H Q := ⟨p, xs, v, rfl, rfl, h, hl, q⟩
theorem r_tyl {p : Addr} {xs : List V} {P : Prop} (h : H p = some (.lst xs)) (q : P) : tyV K "list" (.ref p) H ∧ P := ⟨Or.inl ⟨rfl, _, Or.inl (Or.inl h)⟩, q⟩
theorem r_isB {a b : Bool} (q : Q (.bl (decide (a = b))) H) : rIsB (.bl a) (.bl b) H Q := ⟨a, b, rfl, rfl, q⟩
theorem r_notB {a b : Bool} (q : Q (.bl (!decide (a = b))) H) : rNotB (.bl a) (.bl b) H Q := ⟨a, b, rfl, rfl, q⟩
theorem r_rep {p : Addr} {xs : List V} (h : H p = some (.lst xs)) (h0 : 0 ≤ i) (h1 : i ≤ 100000) (hl : xs.length * i.toNat ≤ sizeLine) (q : ∀ a, H a = none → Q (.ref a) (upd H a (.lst ((List.replicate i.toNat xs).flatten)))) : rRep (.ref p) (.int i) H Q := ⟨p, i, xs, rfl, rfl, h, by omega, by omega, hl, q⟩
/-! data compared -/
theorem r_eqDe {d e : PyData} (hx : Dp K H x d) (hy : Dp K H y e) (sd : SeqAt.shaped d = true) (h : d = e) (q : Q (.bl true) H) : rEqD K x y H Q := ⟨d, e, hx, hy, sd, h ▸ sd, by rw [← h, SeqAt.eqv_refl _ (SeqAt.canLay_of_shaped sd)]; exact q⟩
theorem r_neDe {d e : PyData} (hx : Dp K H x d) (hy : Dp K H y e) (sd : SeqAt.shaped d = true) (h : d = e) (q : Q (.bl false) H) : rNeD K x y H Q := ⟨d, e, hx, hy, sd, h ▸ sd, by rw [← h, SeqAt.eqv_refl _ (SeqAt.canLay_of_shaped sd)]; exact q⟩
/-! built-ins by name -/
def rInt1 : List V → Hp → VK → Prop := fun xs H Q => (∃ i, xs = [.int i] ∧ Q (.int i) H) ∨ ∃ k : Bool, xs = [.bl k] ∧ Q (.int (if k then 1 else 0)) H
def rDivmod : List V → Hp → VK → Prop := fun xs H Q => ∃ i j, xs = [.int i, .int j] ∧ CDiv i j ∧ ∀ p, H p = none → Q (.ref p) (upd H p (.tup [.int (i / j), .int (i % j)]))
def rMin2 : List V → Hp → VK → Prop := fun xs H Q => ∃ i j : Int, xs = [.int i, .int j] ∧ Q (.int (if j < i then j else i)) H
def rMax2 : List V → Hp → VK → Prop := fun xs H Q => ∃ i j : Int, xs = [.int i, .int j] ∧ Q (.int (if j > i then j else i)) H
def rAddS : R2 := fun x y H Q => ∃ i j, x = .str i ∧ y = .str j ∧ i.length + j.length ≤ sizeLine ∧ Q (.str (i ++ j)) H
def rIsN : R2 := fun x y H Q => y = .non ∧ Q (.bl (decide (x = .non))) H
def rNotN : R2 := fun x y H Q => y = .non ∧ Q (.bl (!decide (x = .non))) H
def tTru (K : PySem.W.Frag) (ta : TE) : TT := fun σ H Q => ta σ H fun x H' => ∃ k, TruV K x H' k ∧ Q k H'
theorem r_min2 (q : Q (.int (if j < i then j else i)) H) : rMin2 [.int i, .int j] H Q := ⟨i, j, rfl, q⟩
theorem r_max2 (q : Q (.int (if j > i then j else i)) H) : rMax2 [.int i, .int j] H Q := ⟨i, j, rfl, q⟩
theorem r_lenL {p : Addr} {xs : List V} (h : SqL K H p xs) (q : Q (.int (xs.length : Nat)) H) : rLen K [.ref p] H Q := ⟨_, _, rfl, .inl ⟨_, h, rfl⟩, q⟩
theorem r_lenT {p : Addr} {xs : List V} (h : SqT K H p xs) (q : Q (.int (xs.length : Nat)) H) : rLen K [.ref p] H Q := ⟨_, _, rfl, .inr ⟨_, h, rfl⟩, q⟩
theorem r_lenS {z : Str} (h : z.length ≤ sizeLine) (q : Q (.int (z.length : Nat)) H) : rLen K [.str z] H Q := ⟨_, _, rfl, ⟨h, rfl⟩, q⟩
theorem r_int1i (q : Q (.int i) H) : rInt1 [.int i] H Q := .inl ⟨_, rfl, q⟩
theorem r_int1b {b : Bool} (q : Q (.int (if b then 1 else 0)) H) : rInt1 [.bl b] H Q := .inr ⟨_, rfl, q⟩
theorem r_divmod (c : CDiv i j) (q : ∀ p, H p = none → Q (.ref p) (upd H p (.tup [.int (i / j), .int (i % j)]))) : rDivmod [.int i, .int j] H Q := ⟨i, j, rfl, c, q⟩
theorem r_isi {a b : String} {c : Bool} (ty : TyX K H x (.type a)) (h : kitB a b = some c) (q : Q (.bl c) H) : rIsi K [x, .ty b] H Q := ⟨x, _, _, _, c, rfl, .ty b, ty, kit_ty h, q⟩
theorem r_isN (q : Q (.bl (decide (x = .non))) H) : rIsN x .non H Q := ⟨rfl, q⟩
theorem r_notN (q : Q (.bl (!decide (x = .non))) H) : rNotN x .non H Q := ⟨rfl, q⟩
theorem r_tru {b : Bool} (h : te σ H fun x H1 => ∃ k, TruV K x H1 k ∧ B k H1) : tTru K te σ H B := h
end
theorem pe_pow2 {X : Cx} {a b r : Int} {j j' p p' pos} (h : a ^ b.toNat = r) (hc : CPow a b) : PE X (.BinOp (.Constant (.int a) j p) .Pow (.Constant (.int b) j' p') pos) (tC (.int r)) :=
  ⟨fun pins s σ H Q I hq => (pe_op op_pow pe_int pe_int).run pins s σ H Q I ⟨a, b, rfl, rfl, hc, (show Q (.int (a ^ b.toNat)) H from by rw [h]; exact hq)⟩⟩
/-! ### loops -/
section
variable {K : PySem.W.Frag} {σ : L2.St} {H : Hp} {D : Ends} {g : TG} {tb : TS} {ta : TA} {te : TE} {wi : TI} {R : It → Hp → Prop}
def ForW (J : It) (g : TG) (tb : TS) (D : Ends) (σ : L2.St) (H1 : Hp) : Prop := ∃ W : Nat → Nat → L2.St → Hp → Prop, (∃ m, W 0 m σ H1) ∧ ∀ i m σ H, W i m σ H →
  (J.stop i H ∧ D.nx σ H) ∨ (J.go i H ∧ ∃ N : L2.St → Hp → Prop, (∀ σ' H', N σ' H' → ∃ m', m' < m ∧ W (i + 1) m' σ' H') ∧ ∀ x H', J.yld i H x H' → g x σ H' fun σ2 H2 => tb { D with nx := N, ct := N, bk := D.nx } σ2 H2)
theorem r_for (q : wi σ H fun J H1 => ForW J g tb D σ H1) : tFor wi g tb D σ H := q
section
variable {nx bk ct : L2.St → Hp → Prop} {rt : VK}
/-- over a list that stands; what follows a turn is a letter -/
theorem r_loopL {p : Addr} {xs : List V} (Pv : Nat → L2.St → Hp → Prop) (hx : SqL K H p xs) (h0 : Pv 0 σ H) (hl : ∀ i σ' H', Pv i σ' H' → SqL K H' p xs)
    (hs : ∀ (i : Nat) (x : V) (σ' : L2.St) (H' : Hp) (N : L2.St → Hp → Prop), xs[i]? = some x → Pv i σ' H' → (∀ σ2 H2, Pv (i + 1) σ2 H2 → N σ2 H2) → g x σ' H' fun σ2 H2 => tb (Ends.mk N rt nx N) σ2 H2)
    (hd : ∀ σ' H', Pv xs.length σ' H' → nx σ' H') : ∃ a, V.ref p = .ref a ∧ (∃ xs, SqL K H a xs) ∧ ForW (Itl K a) g tb (Ends.mk nx rt bk ct) σ H :=
  ⟨p, rfl, ⟨xs, hx⟩, for_list (D := Ends.mk nx rt bk ct) Pv h0 (fun i σ' H' _ p => hl i σ' H' p) (fun i x σ' H' hi p => hs i x σ' H' _ hi p fun _ _ z => z) hd⟩
theorem r_loopT {p : Addr} {xs : List V} (Pv : Nat → L2.St → Hp → Prop) (hx : SqT K H p xs) (h0 : Pv 0 σ H) (hl : ∀ i σ' H', Pv i σ' H' → SqT K H' p xs)
    (hs : ∀ (i : Nat) (x : V) (σ' : L2.St) (H' : Hp) (N : L2.St → Hp → Prop), xs[i]? = some x → Pv i σ' H' → (∀ σ2 H2, Pv (i + 1) σ2 H2 → N σ2 H2) → g x σ' H' fun σ2 H2 => tb (Ends.mk N rt nx N) σ2 H2)
    (hd : ∀ σ' H', Pv xs.length σ' H' → nx σ' H') : ∃ a, V.ref p = .ref a ∧ (∃ xs, SqT K H a xs) ∧ ForW (Itt K a) g tb (Ends.mk nx rt bk ct) σ H :=
  ⟨p, rfl, ⟨xs, hx⟩, for_tup (D := Ends.mk nx rt bk ct) Pv h0 (fun i σ' H' _ p => hl i σ' H' p) (fun i x σ' H' hi p => hs i x σ' H' _ hi p fun _ _ z => z) hd⟩
theorem r_loopR1 {j : Int} (Pv : Nat → L2.St → Hp → Prop) (b : -1000000000 ≤ j ∧ j ≤ 1000000000) (h0 : Pv 0 σ H)
    (hs : ∀ (i : Nat) (σ' : L2.St) (H' : Hp) (N : L2.St → Hp → Prop), i < j.toNat → Pv i σ' H' → (∀ σ2 H2, Pv (i + 1) σ2 H2 → N σ2 H2) → g (.int (i : Int)) σ' H' fun σ2 H2 => tb (Ends.mk N rt nx N) σ2 H2)
    (hd : ∀ σ' H', Pv j.toNat σ' H' → nx σ' H') : ∃ k : Int, [V.int j] = [.int k] ∧ -(2 ^ 62) ≤ k ∧ k < 2 ^ 62 ∧ ForW (Itr 0 k.toNat) g tb (Ends.mk nx rt bk ct) σ H :=
  ⟨j, rfl, by omega, by omega, for_range (D := Ends.mk nx rt bk ct) Pv h0 (fun i σ' H' hi p => by
    have e : (0 : Int) + (i : Int) = (i : Int) := Int.zero_add _
    rw [e]
    exact hs i σ' H' _ hi p fun _ _ z => z) hd⟩
theorem r_loopR2 {a j : Int} (Pv : Nat → L2.St → Hp → Prop) (b : -1000000000000000 ≤ a ∧ a ≤ 1000000000000000 ∧ -1000000000000000 ≤ j ∧ j ≤ 1000000000000000) (h0 : Pv 0 σ H)
    (hs : ∀ (i : Nat) (σ' : L2.St) (H' : Hp) (N : L2.St → Hp → Prop), i < (j - a).toNat → Pv i σ' H' → (∀ σ2 H2, Pv (i + 1) σ2 H2 → N σ2 H2) → g (.int (a + (i : Int))) σ' H' fun σ2 H2 => tb (Ends.mk N rt nx N) σ2 H2)
    (hd : ∀ σ' H', Pv (j - a).toNat σ' H' → nx σ' H') : ∃ k l : Int, [V.int a, V.int j] = [.int k, .int l] ∧ (-(2 ^ 62) ≤ k ∧ k < 2 ^ 62 ∧ -(2 ^ 62) ≤ l ∧ l < 2 ^ 62) ∧ ForW (Itr k (l - k).toNat) g tb (Ends.mk nx rt bk ct) σ H :=
  ⟨a, j, rfl, ⟨by omega, by omega, by omega, by omega⟩, for_range (D := Ends.mk nx rt bk ct) Pv h0 (fun i σ' H' hi p => hs i σ' H' _ hi p fun _ _ z => z) hd⟩
end
theorem r_iList (q : te σ H fun x H1 => ∃ a, x = .ref a ∧ (∃ xs, SqL K H1 a xs) ∧ R (Itl K a) H1) : iList K te σ H R := q
theorem r_iTup (q : te σ H fun x H1 => ∃ a, x = .ref a ∧ (∃ xs, SqT K H1 a xs) ∧ R (Itt K a) H1) : iTup K te σ H R := q
theorem r_iRng1 (q : ta σ H fun vs H1 => ∃ j : Int, vs = [.int j] ∧ -(2 ^ 62) ≤ j ∧ j < 2 ^ 62 ∧ R (Itr 0 j.toNat) H1) : iRng1 ta σ H R := q
theorem r_iRng2 (q : ta σ H fun vs H1 => ∃ i j : Int, vs = [.int i, .int j] ∧ (-(2 ^ 62) ≤ i ∧ i < 2 ^ 62 ∧ -(2 ^ 62) ≤ j ∧ j < 2 ^ 62) ∧ R (Itr i (j - i).toNat) H1) : iRng2 ta σ H R := q
end
/-- behind a statement a word, from which the rest is shown once -/
theorem r_cut {t u : TS} {σ : L2.St} {H : Hp} {nx bk ct : L2.St → Hp → Prop} {rt : VK} (M : L2.St → Hp → Prop) (h : t (Ends.mk M rt bk ct) σ H) (k : ∀ σ' H', M σ' H' → u (Ends.mk nx rt bk ct) σ' H') : Evl.tCut t u (Ends.mk nx rt bk ct) σ H := ⟨M, h, k⟩
/-! ### ranges by a step -/
theorem rg_up {a b c : Int} (h1 : 1 ≤ c) (h2 : c ≤ 1000000) (ha : -1000000000 ≤ a) (ha' : a ≤ 1000000000) (hb : -1000000000 ≤ b) (hb' : b ≤ 1000000000) : RgC a b c (if a < b then ((b - a - 1) / c + 1).toNat else 0) := by
  have hc : c > 0 := by omega
  have e : Builtin.Range.rangeSize a b c = if a < b then (b - a - 1) / c + 1 else 0 := by
    unfold Builtin.Range.rangeSize
    rw [if_pos hc]
  by_cases hab : a < b
  · have q0 : 0 ≤ (b - a - 1) / c := Int.ediv_nonneg (by omega) (by omega)
    have q1 : (b - a - 1) / c ≤ b - a - 1 := Int.ediv_le_self _ (by omega)
    have q2 : (b - a - 1) / c * c ≤ b - a - 1 := Int.ediv_mul_le _ (by omega)
    rw [if_pos hab] at e ⊢
    refine ⟨by omega, by omega, ?_, ?_⟩
    · unfold Builtin.Range.small
      rw [e]
      have q3 : ((b - a - 1) / c + 1) * c = (b - a - 1) / c * c + c := by rw [Int.add_mul, Int.one_mul]
      have q4 : ((b - a - 1) / c + 1 - 1) * c = (b - a - 1) / c * c := by rw [Int.add_sub_cancel]
      have q5 : 0 ≤ (b - a - 1) / c * c := Int.mul_nonneg q0 (by omega)
      simp only [Builtin.Range.rangeFitsLong, Bool.and_eq_true, Bool.or_eq_true, decide_eq_true_eq, beq_iff_eq, hc, if_true]
      first | omega | (simp only [q3, q4]; omega) | (split <;> omega)
    · rw [e]; omega
  · rw [if_neg hab] at e ⊢
    refine ⟨by omega, by omega, ?_, ?_⟩
    · unfold Builtin.Range.small
      rw [e]
      simp only [Builtin.Range.rangeFitsLong, Bool.and_eq_true, Bool.or_eq_true, decide_eq_true_eq, beq_iff_eq, hc, if_true]
      first | omega | (split <;> omega) | simp <;> omega
    · rw [e]; rfl
/-! ### comprehensions whose elements leave the heap -/
section
variable {K : PySem.W.Frag} {σ : L2.St} {H : Hp} {Q : VK} {g : TG} {tt : TT} {te : TE} {wi : TI} {ws : List Nat}
def LcW (J : It) (g : TG) (tt : TT) (te : TE) (vs : List Nat) (σ : L2.St) (H1 : Hp) (Q : VK) : Prop := ∀ D, H1 D = none → ∃ W : Nat → Nat → Hp → Prop, (∃ m, W 0 m (upd H1 D (.lst []))) ∧ ∀ i m H, W i m H →
  (J.stop i H ∧ Q (.ref D) H) ∨ (J.go i H ∧ ∃ Nx : Hp → Prop, (∀ H', Nx H' → ∃ m', m' < m ∧ W (i + 1) m' H') ∧ ∀ x H', J.yld i H x H' → g x (wipe σ vs) H' fun σ2 H2 => wipe σ2 vs = wipe σ vs ∧ tt σ2 H2 fun b H3 =>
    if b = true then te σ2 H3 fun y H4 => ∃ acc, H4 D = some (.lst acc) ∧ acc.length < sizeLine ∧ Nx (upd H4 D (.lst (acc ++ [y]))) else Nx H3)
theorem r_lc (q : wi σ H fun J H1 => LcW J g tt te ws σ H1 Q) : tLc wi g tt te ws σ H Q := q
theorem map_step {xs : List V} {f : V → V} {i : Nat} {x : V} (h : xs[i]? = some x) : (xs.take i).map f ++ [f x] = (xs.take (i + 1)).map f := by
  have hl : i < xs.length := (List.getElem?_eq_some_iff.mp h).1
  have e : xs.take (i + 1) = xs.take i ++ [x] := by
    rw [List.take_add_one, h]; rfl
  rw [e, List.map_append]; rfl
/-- over a list, no test -/
theorem r_lcP {j : Nat} {p : Addr} {xs : List V} (f : V → V) (hx : SqL K H p xs) (hz : xs.length ≤ 100000) (hw : ∀ x, wipe ((wipe σ ws).set j (some x)) ws = wipe σ ws)
    (he : ∀ (x : V) (D : Addr) (acc : List V) (Q' : VK), x ∈ xs → H D = none → Q' (f x) (upd H D (.lst acc)) → te ((wipe σ ws).set j (some x)) (upd H D (.lst acc)) Q') (q : ∀ D, H D = none → Q (.ref D) (upd H D (.lst (xs.map f)))) :
    ∃ a, V.ref p = .ref a ∧ (∃ xs, SqL K H a xs) ∧ LcW (Itl K a) (gName j) tYes te ws σ H Q := by
  refine ⟨p, rfl, ⟨xs, hx⟩, fun D hD => lc_list (K := K) (a := p) (xs := xs) (fun i H' => H' = upd H D (.lst ((xs.take i).map f))) (by simp) (fun i H' _ e => ?_) (fun i x H' hi e => ?_) (fun H' e => ?_)⟩
  · rw [e]; exact Same.seq (Same.new (Same.refl H) hD) hx
  · subst e
    refine ⟨hw x, ?_⟩
    show te _ _ _
    refine he x D _ _ (List.mem_of_getElem? hi) hD ⟨_, upd_same, ?_, ?_⟩
    · rw [List.length_map, List.length_take]
      have h2 : (100000 : Nat) < sizeLine := by rw [sizeLine_eq]; decide
      omega
    · rw [upd2, map_step hi]
  · subst e
    rw [List.take_length]
    exact q D hD
theorem r_lcPT {j : Nat} {p : Addr} {xs : List V} (f : V → V) (hx : SqT K H p xs) (hz : xs.length ≤ 100000) (hw : ∀ x, wipe ((wipe σ ws).set j (some x)) ws = wipe σ ws)
    (he : ∀ (x : V) (D : Addr) (acc : List V) (Q' : VK), x ∈ xs → H D = none → Q' (f x) (upd H D (.lst acc)) → te ((wipe σ ws).set j (some x)) (upd H D (.lst acc)) Q') (q : ∀ D, H D = none → Q (.ref D) (upd H D (.lst (xs.map f)))) :
    ∃ a, V.ref p = .ref a ∧ (∃ xs, SqT K H a xs) ∧ LcW (Itt K a) (gName j) tYes te ws σ H Q := by
  refine ⟨p, rfl, ⟨xs, hx⟩, fun D hD => lc_tup (K := K) (a := p) (xs := xs) (fun i H' => H' = upd H D (.lst ((xs.take i).map f))) (by simp) (fun i H' _ e => ?_) (fun i x H' hi e => ?_) (fun H' e => ?_)⟩
  · rw [e]
    rcases hx with (h | ⟨o, h⟩) | h
    · exact .inl (.inl (Same.new (Same.refl H) hD _ _ h))
    · exact .inl (.inr ⟨o, Same.new (Same.refl H) hD _ _ h⟩)
    · exact .inr h
  · subst e
    refine ⟨hw x, ?_⟩
    show te _ _ _
    refine he x D _ _ (List.mem_of_getElem? hi) hD ⟨_, upd_same, ?_, ?_⟩
    · rw [List.length_map, List.length_take]
      have h2 : (100000 : Nat) < sizeLine := by rw [sizeLine_eq]; decide
      omega
    · rw [upd2, map_step hi]
  · subst e
    rw [List.take_length]
    exact q D hD
theorem r_all {p : Addr} {bs : List Bool} (h : SqL K H p (bs.map V.bl)) (q : Q (.bl (bs.all id)) H) : rAll K [.ref p] H Q := ⟨p, bs, rfl, h, q⟩
theorem r_sum {p : Addr} {ns : List Int} (h : SqL K H p (ns.map V.int)) (q : Q (.int ns.sum) H) : rSum K [.ref p] H Q := ⟨p, ns, rfl, h, q⟩
theorem r_any {p : Addr} {bs : List Bool} (h : SqL K H p (bs.map V.bl)) (q : Q (.bl (bs.any id)) H) : rAny K [.ref p] H Q := ⟨p, bs, rfl, h, q⟩
end
/-! ### while -/
section
variable {σ : L2.St} {H : Hp} {c : TT} {tb : TS} {nx bk ct : L2.St → Hp → Prop} {rt : VK}
/-- what is wanted behind a while's test -/
def WhB (W : Nat → L2.St → Hp → Prop) (m : Nat) (tb : TS) (nx : L2.St → Hp → Prop) (rt : VK) (b : Bool) (σ : L2.St) (H : Hp) : Prop :=
  if b = true then ∃ N : L2.St → Hp → Prop, (∀ σ' H', N σ' H' → ∃ m', m' < m ∧ W m' σ' H') ∧ tb (Ends.mk N rt nx N) σ H else nx σ H
theorem whB {W : Nat → L2.St → Hp → Prop} {m : Nat} {b : Bool} (h1 : b = true → ∀ N : L2.St → Hp → Prop, (∀ m' σ2 H2, m' < m → W m' σ2 H2 → N σ2 H2) → tb (Ends.mk N rt nx N) σ H) (h2 : b = false → nx σ H) : WhB W m tb nx rt b σ H := by
  cases b with
  | true => exact ite_t ⟨_, fun _ _ z => z, h1 rfl _ fun m' σ2 H2 a b => ⟨m', a, b⟩⟩
  | false => exact ite_f (h2 rfl)
theorem r_while (W : Nat → L2.St → Hp → Prop) (m0 : Nat) (h0 : W m0 σ H)
    (hs : ∀ (m : Nat) (σ' : L2.St) (H' : Hp), W m σ' H' → c σ' H' fun b H1 => WhB W m tb nx rt b σ' H1) : tWhile c tb (Ends.mk nx rt bk ct) σ H := ⟨W, ⟨m0, h0⟩, hs⟩
end
theorem r_iRng3 {σ : L2.St} {H : Hp} {ta : TA} {R : It → Hp → Prop} (q : ta σ H fun vs H1 => ∃ (i j c : Int) (n : Nat), vs = [.int i, .int j, .int c] ∧ RgC i j c n ∧ R (Itc i c n) H1) : iRng3 ta σ H R := q
theorem r_loopR3 {σ : L2.St} {H : Hp} {g : TG} {tb : TS} {nx bk ct : L2.St → Hp → Prop} {rt : VK} {a b c : Int} (Pv : Nat → L2.St → Hp → Prop) (h1 : 1 ≤ c ∧ c ≤ 1000000) (ha : -1000000000 ≤ a ∧ a ≤ 1000000000) (hb : -1000000000 ≤ b ∧ b ≤ 1000000000) (h0 : Pv 0 σ H)
    (hs : ∀ (i : Nat) (σ' : L2.St) (H' : Hp) (N : L2.St → Hp → Prop), i < (if a < b then ((b - a - 1) / c + 1).toNat else 0) → Pv i σ' H' → (∀ σ2 H2, Pv (i + 1) σ2 H2 → N σ2 H2) → g (.int (a + (i : Nat) * c)) σ' H' fun σ2 H2 => tb (Ends.mk N rt nx N) σ2 H2)
    (hd : ∀ σ' H', Pv (if a < b then ((b - a - 1) / c + 1).toNat else 0) σ' H' → nx σ' H') :
    ∃ (i j k : Int) (n : Nat), [V.int a, V.int b, V.int c] = [.int i, .int j, .int k] ∧ RgC i j k n ∧ ForW (Itc i k n) g tb (Ends.mk nx rt bk ct) σ H :=
  ⟨a, b, c, _, rfl, rg_up h1.1 h1.2 ha.1 ha.2 hb.1 hb.2, for_rangeC (D := Ends.mk nx rt bk ct) Pv h0 (fun i σ' H' hi p => hs i σ' H' _ hi p fun _ _ z => z) hd⟩
/-! ### tests that leave the heap: what they tell as one proposition -/
def Pu (T : TT) (σ : L2.St) (H : Hp) (p : Prop) : Prop := ∃ b : Bool, (b = true ↔ p) ∧ ∀ B : Bool → Hp → Prop, B b H → T σ H B
section
variable {σ : L2.St} {H : Hp} {T U : TT} {p q : Prop} {D : Ends} {t u : TS} {ta tb : TE} {Q : VK}
theorem pu_and (h1 : Pu T σ H p) (h2 : p → Pu U σ H q) : Pu (tAnd T U) σ H (p ∧ q) := by
  obtain ⟨b, e, h1⟩ := h1
  cases b with
  | false => exact ⟨false, ⟨fun z => (nomatch z), fun z => e.mpr z.1⟩, fun B hB => h1 _ (ite_f hB)⟩
  | true =>
    obtain ⟨c, e2, h2⟩ := h2 (e.mp rfl)
    exact ⟨c, ⟨fun z => ⟨e.mp rfl, e2.mp z⟩, fun z => e2.mpr z.2⟩, fun B hB => h1 _ (ite_t (h2 _ hB))⟩
theorem pu_or (h1 : Pu T σ H p) (h2 : ¬ p → Pu U σ H q) : Pu (tOr T U) σ H (p ∨ q) := by
  obtain ⟨b, e, h1⟩ := h1
  cases b with
  | true => exact ⟨true, ⟨fun _ => .inl (e.mp rfl), fun _ => rfl⟩, fun B hB => h1 _ (ite_t hB)⟩
  | false =>
    have hn : ¬ p := fun z => nomatch e.mpr z
    obtain ⟨c, e2, h2⟩ := h2 hn
    exact ⟨c, ⟨fun z => .inr (e2.mp z), fun z => z.elim (fun y => absurd y hn) e2.mpr⟩, fun B hB => h1 _ (ite_f (h2 _ hB))⟩
theorem pu_not (h1 : Pu T σ H p) : Pu (tNot T) σ H (¬ p) := by
  obtain ⟨b, e, h1⟩ := h1
  refine ⟨!b, ?_, fun B hB => h1 _ hB⟩
  cases b
  · exact ⟨fun _ z => (nomatch e.mpr z), fun _ => rfl⟩
  · exact ⟨fun z => (nomatch z), fun z => absurd (e.mp rfl) z⟩
theorem dec_n {i : Decidable p} : (!(@decide p i)) = true ↔ ¬ p := by
  cases i with
  | isTrue y => exact ⟨fun z => (nomatch z), fun n => absurd y n⟩
  | isFalse y => exact ⟨fun _ => y, fun _ => rfl⟩
theorem pu_x (h : False) : Pu T σ H True := h.elim
theorem pu_d {i : Decidable p} (h : ∀ B : Bool → Hp → Prop, B (@decide p i) H → T σ H B) : Pu T σ H p := ⟨@decide p i, ⟨of_decide_eq_true, decide_eq_true⟩, h⟩
theorem pu_n {i : Decidable p} (h : ∀ B : Bool → Hp → Prop, B (!(@decide p i)) H → T σ H B) : Pu T σ H (¬ p) := ⟨!(@decide p i), dec_n, h⟩
theorem pu_b {b : Bool} (h : ∀ B : Bool → Hp → Prop, B b H → T σ H B) : Pu T σ H (b = true) := ⟨b, Iff.rfl, h⟩
theorem pu_nb {b : Bool} (h : ∀ B : Bool → Hp → Prop, B (!b) H → T σ H B) : Pu T σ H (b = false) := ⟨!b, by cases b <;> decide, h⟩
theorem r_ifP (hT : Pu T σ H p) (h1 : p → t D σ H) (h2 : ¬ p → u D σ H) : tIfS T t u D σ H := by
  obtain ⟨b, e, h⟩ := hT
  cases b with
  | true => exact h _ (ite_t (h1 (e.mp rfl)))
  | false => exact h _ (ite_f (h2 fun z => nomatch e.mpr z))
theorem r_tifP (hT : Pu T σ H p) (h1 : p → ta σ H Q) (h2 : ¬ p → tb σ H Q) : tIf T ta tb σ H Q := by
  obtain ⟨b, e, h⟩ := hT
  cases b with
  | true => exact h _ (ite_t (h1 (e.mp rfl)))
  | false => exact h _ (ite_f (h2 fun z => nomatch e.mpr z))
theorem r_ifPy (hT : Pu T σ H p) (hp : p) (h1 : t D σ H) : tIfS T t u D σ H := r_ifP hT (fun _ => h1) fun n => absurd hp n
theorem r_ifPn (hT : Pu T σ H p) (hp : ¬ p) (h1 : u D σ H) : tIfS T t u D σ H := r_ifP hT (fun n => absurd n hp) fun _ => h1
theorem r_tifPy (hT : Pu T σ H p) (hp : p) (h1 : ta σ H Q) : tIf T ta tb σ H Q := r_tifP hT (fun _ => h1) fun n => absurd hp n
theorem r_tifPn (hT : Pu T σ H p) (hp : ¬ p) (h1 : tb σ H Q) : tIf T ta tb σ H Q := r_tifP hT (fun n => absurd n hp) fun _ => h1
end
end Vs

/-! ## own exceptions: what is raised, caught, asked -/
namespace Vs
open PySem PySem.Spec PyProof.Rows L2
/-- isinstance(e, c) of the exception that a suite holds -/
def rIsX (K : PySem.W.Frag) (cls : Value) (d : Option Addr) (a : Addr) : List V → Hp → VK → Prop := fun xs H Q =>
  ∃ (c : V) (cv : Value) (D : Addr) (b : Bool), xs = [.ref a, c] ∧ cls = .ref D ∧ d = none ∧ ExcC K D ∧ ClsV c cv ∧ PySem.W.kitOne K (.ref D) cv = some b ∧ Q (.bl b) H
def rIsXT (K : PySem.W.Frag) (cls : Value) (d : Option Addr) (a : Addr) : List V → Hp → VK → Prop := fun xs H Q =>
  ∃ (tp : Addr) (cs : List V) (us : List Value) (D : Addr) (b : Bool), xs = [.ref a, .ref tp] ∧ H tp = some (.tup cs) ∧ cls = .ref D ∧ d = none ∧ ExcC K D ∧ Paired ClsV cs us ∧ PySem.W.kitAny K (.ref D) us = some b ∧ Q (.bl b) H
theorem call_isX {X : Cx} {a : Addr} {oe : Obj} {cls : Value} {d : Option Addr} {pn : List (Addr × Obj)} (hz : Zc cls d oe) (hf : ∃ vs, oe.data = .fields vs) : CallR (X.suite a ((a, oe) :: pn)) (.builtin "isinstance") (rIsX X.K cls d a) := by
  intro pins s σ H xs us Q I r h
  obtain ⟨c, cv, D, b, e1, rfl, rfl, C, hc, e, q⟩ := h
  exact call_isE C hz hf pins s σ H xs us Q I r ⟨c, cv, b, e1, fun u ru => hc.eq ru, e, q⟩
theorem call_isXT {X : Cx} {a : Addr} {oe : Obj} {cls : Value} {d : Option Addr} {pn : List (Addr × Obj)} (hz : Zc cls d oe) (hf : ∃ vs, oe.data = .fields vs) : CallR (X.suite a ((a, oe) :: pn)) (.builtin "isinstance") (rIsXT X.K cls d a) := by
  intro pins s σ H xs us Q I r h
  obtain ⟨tp, cs, ws, D, b, rfl, hT, rfl, rfl, C, hc, e, q⟩ := h
  obtain ⟨u1, u2, rfl, r1, r2⟩ := vals2 r
  cases (show u1 = Value.ref a from r1)
  cases (show u2 = Value.ref tp from r2)
  have hget := (I.pin (a, oe) (List.mem_append_left _ List.mem_cons_self)).1
  have J : PySem.W.InstAt s.heap a oe D none := by
    obtain ⟨vs, hv⟩ := hf
    refine ⟨hget, hz.1, ?_, ?_⟩
    · unfold PySem.W.notCls; rw [hv]
    · rw [hz.2]; trivial
  have hO : ObjOk X.prog X.w H s.heap tp (.tup cs) := I.hok tp _ hT
  obtain ⟨_, its, rv, ⟨oc, od, dt, sl⟩, g1, g2, n, g3⟩ := hO
  have e4 : its = ws := ClsV.all hc rv
  subst e4
  dsimp only at g2 g3
  subst g2 g3
  exact PySem.W.kia_tup (PySem.W.handS_kitx_exc C.hg C.hk C.hs C.hd C.ha C.hn C.ht C.hm) I.kIn J g1 e (fun z => nomatch z) fun tk => ⟨.bl b, H, I.tok tk, rfl, q⟩
/-- what such a class must say, as one Bool -/
def excB (K : PySem.W.Frag) (D : Addr) : Bool :=
  decide (PySem.W.findIn K (.ref D) "__getattribute__" = some (some (.builtin "BaseException.__getattribute__"))) &&
  (decide (PySem.W.findIn K (.ref D) "__getattr__" = some none) && (decide (PySem.W.subIn K (.ref D) (.type "BaseException") = some true) &&
  (PySem.W.hasDictIn K D && (decide (PySem.W.findIn K (.ref D) "__class__" = some (some (.builtin "object.__class__"))) &&
  (decide (PySem.W.specialIn K (.builtin "object.__class__") "__get__" = some (some (.builtin "getset_descriptor.__get__"))) &&
  (decide (PySem.W.takesIn K (.builtin "object.__class__") = some true) && decide (PySem.W.mroIn K D (.type "object") = some true)))))))
theorem b2 {a b : Bool} (h : (a && b) = true) : a = true ∧ b = true := Bool.and_eq_true_iff.mp h
theorem excB_ok {K : PySem.W.Frag} {D : Addr} (h : excB K D = true) : ExcC K D := by
  obtain ⟨h1, h⟩ := b2 h
  obtain ⟨h2, h⟩ := b2 h
  obtain ⟨h3, h⟩ := b2 h
  obtain ⟨h4, h⟩ := b2 h
  obtain ⟨h5, h⟩ := b2 h
  obtain ⟨h6, h⟩ := b2 h
  obtain ⟨h7, h8⟩ := b2 h
  exact ⟨of_decide_eq_true h1, of_decide_eq_true h2, of_decide_eq_true h3, h4, of_decide_eq_true h5, of_decide_eq_true h6, of_decide_eq_true h7, of_decide_eq_true h8⟩
/-- the readings -/
def tRaise (E : XK) (C : Addr) : TS := fun _ _ H => E (.ref C) none H
def tTryAs (K : PySem.W.Frag) (c : Value) (i : Nat) (tb : WX → TS) (ts : Addr → Value → Option Addr → TS) (Wout : WX) : TS := fun D σ H => tb (wAs K c i ts Wout D) D σ H
section
variable {K : PySem.W.Frag} {σ : L2.St} {H : Hp} {Q : VK} {D : Ends} {E : XK} {C : Addr}
theorem r_raise (q : E (.ref C) none H) : tRaise E C D σ H := q
theorem r_tryAs {c : Value} {i : Nat} {tb : WX → TS} {ts : Addr → Value → Option Addr → TS} {Wout : WX} (q : tb (wAs K c i ts Wout D) D σ H) : tTryAs K c i tb ts Wout D σ H := q
theorem r_callS {sp : Sp} {W : WX} {t : TA} (q : t σ H fun vs H1 => sp vs H1 Q (WE W σ)) : tCallS sp (WE W) t σ H Q := q
/-- caught -/
theorem r_caught {nx bk ct : L2.St → Hp → Prop} {rt : VK} {cls c : Value} {d : Option Addr} {i : Nat} {ts : Addr → Value → Option Addr → TS} {Wout : WX} (h : PySem.W.exmOne K cls c = some true)
    (q : ∀ a, H a = none → ts a cls d (Ends.mk (fun σ' H' => nx (σ'.set i none) H') rt (fun σ' H' => bk (σ'.set i none) H') (fun σ' H' => ct (σ'.set i none) H')) (σ.set i (some (.ref a))) H) :
    WE (wAs K c i ts Wout (Ends.mk nx rt bk ct)) σ cls d H := ⟨true, h, fun _ => q, fun z => nomatch z⟩
theorem r_isX {a : Addr} {c : V} {cv : Value} {b : Bool} (h : ExcC K C) (hc : ClsV c cv) (e : PySem.W.kitOne K (.ref C) cv = some b) (q : Q (.bl b) H) : rIsX K (.ref C) none a [.ref a, c] H Q := ⟨c, cv, C, b, rfl, rfl, rfl, h, hc, e, q⟩
theorem r_isXT {a tp : Addr} {cs : List V} {us : List Value} {b : Bool} (ht : H tp = some (.tup cs)) (h : ExcC K C) (hc : Paired ClsV cs us) (e : PySem.W.kitAny K (.ref C) us = some b) (q : Q (.bl b) H) : rIsXT K (.ref C) none a [.ref a, .ref tp] H Q := ⟨tp, cs, us, C, b, rfl, ht, rfl, rfl, h, hc, e, q⟩
end
end Vs

/-! ## objects of own classes -/
namespace Vs
open PySem PySem.Spec PyProof.Rows L2
/-- an instance's class, asked by isinstance -/
structure InsT (K : PySem.W.Frag) (C : Addr) : Prop where
  cl : Cls K C
  ha : PySem.W.findIn K (.ref C) "__class__" = some (some (.builtin "object.__class__"))
  hn : PySem.W.specialIn K (.builtin "object.__class__") "__get__" = some (some (.builtin "getset_descriptor.__get__"))
  htk : PySem.W.takesIn K (.builtin "object.__class__") = some true
  hm : PySem.W.mroIn K C (.type "object") = some true
theorem InsT.ty {K : PySem.W.Frag} {H : Hp} {a C dx : Addr} {fs : List (Str × V)} (t : InsT K C) (e : H a = some (.ins C dx fs)) : TyX K H (.ref a) (.ref C) := .base (.ins e t.cl t.ha t.hn t.htk t.hm)
def insB (K : PySem.W.Frag) (C : Addr) : Bool :=
  decide (PySem.W.findIn K (.ref C) "__class__" = some (some (.builtin "object.__class__"))) && (decide (PySem.W.specialIn K (.builtin "object.__class__") "__get__" = some (some (.builtin "getset_descriptor.__get__"))) &&
  (decide (PySem.W.takesIn K (.builtin "object.__class__") = some true) && decide (PySem.W.mroIn K C (.type "object") = some true)))
theorem insB_ok {K : PySem.W.Frag} {C : Addr} (c : Cls K C) (h : insB K C = true) : InsT K C := by
  obtain ⟨h1, h⟩ := b2 h
  obtain ⟨h2, h⟩ := b2 h
  obtain ⟨h3, h4⟩ := b2 h
  exact ⟨c, of_decide_eq_true h1, of_decide_eq_true h2, of_decide_eq_true h3, of_decide_eq_true h4⟩
/-- a method that stands in a class above -/
def methB (K : PySem.W.Frag) (C : Addr) (m : Str) (f : Addr) : Bool := decide (PySem.W.findIn K (.ref C) m = some (some (.ref f))) && (PySem.W.isFn K (.ref f) && PySem.W.keepIn K (.ref f))
theorem methB_ok {K : PySem.W.Frag} {C f : Addr} {m : Str} (h : methB K C m f = true) : Meth K C m f := by
  obtain ⟨h1, h⟩ := b2 h
  obtain ⟨h2, h3⟩ := b2 h
  exact ⟨of_decide_eq_true h1, h2, h3⟩
/-- C() without an own __init__ -/
structure Mk0 (K : PySem.W.Frag) (C : Addr) : Prop where
  makes : PySem.W.makesIn K C = true
  init : PySem.W.findIn K (.ref C) "__init__" = some (some (.builtin "object.__init__"))
  top : PySem.W.mroIn K C (.type "object") = some true
  kp : PySem.W.keepIn K (.ref C) = true
def mk0B (K : PySem.W.Frag) (C : Addr) : Bool := PySem.W.makesIn K C && (decide (PySem.W.findIn K (.ref C) "__init__" = some (some (.builtin "object.__init__"))) && (decide (PySem.W.mroIn K C (.type "object") = some true) && PySem.W.keepIn K (.ref C)))
theorem mk0B_ok {K : PySem.W.Frag} {C : Addr} (h : mk0B K C = true) : Mk0 K C := by
  obtain ⟨h1, h⟩ := b2 h
  obtain ⟨h2, h⟩ := b2 h
  obtain ⟨h3, h4⟩ := b2 h
  exact ⟨h1, of_decide_eq_true h2, of_decide_eq_true h3, h4⟩
/-- C(..) by an __init__ that stands in a class above -/
def mkB (K : PySem.W.Frag) (C f : Addr) : Bool := PySem.W.makesIn K C && (decide (PySem.W.findIn K (.ref C) "__init__" = some (some (.ref f))) && (PySem.W.isFn K (.ref f) && PySem.W.keepIn K (.ref C)))
theorem mkB_ok {K : PySem.W.Frag} {C f : Addr} (h : mkB K C f = true) : Mk K C f := by
  obtain ⟨h1, h⟩ := b2 h
  obtain ⟨h2, h⟩ := b2 h
  obtain ⟨h3, h4⟩ := b2 h
  exact ⟨h1, of_decide_eq_true h2, h3, h4⟩
section
variable {X : Cx} {pins : List (Addr × Obj)} {σ : L2.St} {H : Hp} {s : Shared} {Q : VK} {C : Addr} {x : Str} {p pos : Pos}
theorem run_bare (M : Mk0 X.K C) (I : Inv X pins σ H s) (h : ∀ x dx, H x = none → H dx = none → dx ≠ x → Q (.ref x) (upd (upd H dx (.own x)) x (.ins C dx []))) :
    wpAny (model X.prog X.w) X.A (call (.ref C) []) (EP X pins σ Q) X.xe s := by
  have hq := h (s.heap.objs.size + 1) s.heap.objs.size (I.hok.fresh (Nat.le_succ _)) (I.hok.fresh (Nat.le_refl _)) (Nat.ne_of_lt (Nat.lt_succ_self _))
  have I2 := Inv.made (C := C) I
  obtain ⟨_, _, _, ho, _⟩ := I2.hok _ _ upd_same
  refine wpAny_call (make_map0 I.kIn M.makes M.init (fun self => .of_pure (PySem.W.oi_bind self)) ?_)
  have t2 : PySem.W.Looks (model X.prog X.w) ((s.heap.push PySem.W.emptyDict).push (PySem.W.instObj C s.heap.objs.size)) (isInstance (.ref (s.heap.objs.size + 1)) (.type "object")) true :=
    ((PySem.W.Looks.ld ho).andThen .now).andThen (PySem.W.looks_mroIn I2.kIn M.top)
  refine codeAny_call_builtin PySem.W.oi_plain PySem.W.entry_oi (@PySem.W.check_slot (model X.prog X.w) _ _ _ "object.__init__" "object" "__init__" (.ref (s.heap.objs.size + 1)) [] [] _ PySem.W.oi_kind PySem.W.oi_split t2 (PySem.W.oi_args _) ?_)
  rw [PySem.W.oi_run]
  exact wpAny_pure (And.intro rfl (show EP X pins σ Q (Value.ref (s.heap.objs.size + 1)) _ from ⟨V.ref (s.heap.objs.size + 1), _, I2, rfl, hq⟩))
/-- C(): all stands, a new instance -/
def tMake0 (C : Addr) : TE := fun _ H Q => ∀ x dx, H x = none → H dx = none → dx ≠ x → Q (.ref x) (upd (upd H dx (.own x)) x (.ins C dx []))
theorem pe_make00 (M : Mk0 X.K C) (hg : Gl X x) (hm : X.mg x = some (.ref C)) (hdb : (x == ("__debug__" : Str)) = false := by decide) : PE X (.Call (.Name x p) [] [] pos) (tMake0 C) := by
  refine ⟨fun pins s σ H Q I h => ?_⟩
  refine wpAny_Call_Name_kw (ld_glob I hg hm ?_ hdb)
  exact PySem.W.callWith_K0 I.kIn M.kp (run_bare M I h)
theorem same_made {H H' : Hp} {x dx : Addr} {C : Addr} (hx : H x = none) (hd : H dx = none) (k : Kp x (upd (upd H dx (.own x)) x (.ins C dx [])) H') : Same H H' := by
  intro b o h
  have n1 : b ≠ x := fun z => by rw [z, hx] at h; cases h
  have n2 : b ≠ dx := fun z => by rw [z, hd] at h; cases h
  exact k b o (by rw [upd_ne n1, upd_ne n2]; exact h) n1
theorem r_make0 (q : ∀ x dx H', H x = none → Same H H' → H' x = some (.ins C dx []) → Q (.ref x) H') : tMake0 C σ H Q :=
  fun x dx hx hd _ => q x dx _ hx (same_made hx hd (Kp.refl _ _)) upd_same
/-- C(..), the arguments read -/
theorem r_make {sp : Sp} {E : XK} {t : TA} (q : t σ H fun vs H1 => ∀ x dx, H1 x = none → (H1 dx = none ∧ dx ≠ x) → sp (.ref x :: vs) (upd (upd H1 dx (.own x)) x (.ins C dx [])) (fun v H2 => v = .non ∧ Q (.ref x) H2) E) : tMake C sp [] E t σ H Q := by
  unfold tMake
  simp only [List.append_nil]
  simp only [and_imp] at q
  exact q
/-- C(.., k = v), read -/
theorem r_makeK {n m : Nat} {sp : Sp} {gV : List V → List V → List V} {E : XK} {t tk : TA} (q : t σ H fun vs H1 => tk σ H1 fun zs H2 => vs.length = n ∧ zs.length = m ∧
  ∀ x dx, H2 x = none → (H2 dx = none ∧ dx ≠ x) → sp (gV (.ref x :: vs) zs) (upd (upd H2 dx (.own x)) x (.ins C dx [])) (fun v H3 => v = .non ∧ Q (.ref x) H3) E) : tMakeK C n m sp gV E t tk σ H Q := by
  unfold tMakeK
  simp only [and_imp] at q
  exact q
theorem r_len {n : Nat} {vs : List V} {P : Prop} (h : vs.length = n) (q : P) : vs.length = n ∧ P := ⟨h, q⟩
/-- o.f -/
def rFld (K : PySem.W.Frag) (f : Str) (x : V) (H : Hp) (Q : VK) : Prop := ∃ a C dx fs v, x = .ref a ∧ H a = some (.ins C dx fs) ∧ Cls K C ∧ NoAttr K C f ∧ fs.lookup f = some v ∧ Q v H
theorem r_fld {K : PySem.W.Frag} {ta : TE} {f : Str} (q : ta σ H fun y H1 => rFld K f y H1 Q) : tFld K ta f σ H Q := q
theorem r_fldI {K : PySem.W.Frag} {a dx : Addr} {fs : List (Str × V)} {f : Str} {v : V} (h : H a = some (.ins C dx fs)) (c : Cls K C) (n : NoAttr K C f) (l : fs.lookup f = some v) (q : Q v H) : rFld K f (.ref a) H Q := ⟨a, C, dx, fs, v, rfl, h, c, n, l, q⟩
/-- o.f = e -/
def rSet (K : PySem.W.Frag) (f : Str) (y x : V) (H : Hp) (P : Hp → Prop) : Prop := ∃ a C dx fs, x = .ref a ∧ H a = some (.ins C dx fs) ∧ Cls K C ∧ NoAttr K C f ∧ fs.length < 1000 ∧ P (upd H a (.ins C dx (putF f y fs)))
theorem r_sfld {K : PySem.W.Frag} {ta tv : TE} {f : Str} {D : Ends} (q : tv σ H fun y H1 => ta σ H1 fun z H2 => rSet K f y z H2 fun H3 => D.nx σ H3) : sFld K ta tv f D σ H := q
theorem r_set {K : PySem.W.Frag} {a dx : Addr} {fs gs : List (Str × V)} {f : Str} {y : V} {P : Hp → Prop} (h : H a = some (.ins C dx fs)) (c : Cls K C) (n : NoAttr K C f) (l : fs.length < 1000) (e : putF f y fs = gs) (q : P (upd H a (.ins C dx gs))) : rSet K f y (.ref a) H P := ⟨a, C, dx, fs, rfl, h, c, n, l, e ▸ q⟩
theorem putF_nil {f : Str} {v : V} : putF f v [] = [(f, v)] := rfl
theorem putF_hit {f : Str} {v x : V} {r : List (Str × V)} : putF f v ((f, x) :: r) = (f, v) :: r := if_pos rfl
theorem putF_miss {f g : Str} {v x : V} {r s : List (Str × V)} (n : g ≠ f) (e : putF f v r = s) : putF f v ((g, x) :: r) = (g, x) :: s := (if_neg n).trans (by rw [e])
/-- o.m(..) -/
def rMe (C : Addr) (m : Str) (x : V) (H : Hp) (P : Prop) : Prop := ∃ a dx fs, x = .ref a ∧ H a = some (.ins C dx fs) ∧ fs.lookup m = none ∧ P
theorem r_meth {sp : Sp} {E : XK} {ta : TE} {t : TA} {m : Str} (q : ta σ H fun y H1 => rMe C m y H1 (t σ H1 fun vs H2 => sp (y :: vs) H2 Q E)) : tMeth C m sp [] E ta t σ H Q := by
  unfold tMeth
  simp only [List.append_nil]
  exact q
theorem r_me {a dx : Addr} {fs : List (Str × V)} {m : Str} {P : Prop} (h : H a = some (.ins C dx fs)) (l : fs.lookup m = none) (p : P) : rMe C m (.ref a) H P := ⟨a, dx, fs, rfl, h, l, p⟩
theorem pe_of {e : Expr} {t u : TE} (h : PE X e t) (q : t = u) : PE X e u := q ▸ h
/-- one of several readings -/
def tAlt (t u : TE) : TE := fun σ H Q => t σ H Q ∨ u σ H Q
theorem pe_alt {e : Expr} {t u : TE} (h : PE X e t) (k : PE X e u) : PE X e (tAlt t u) := ⟨fun pins s σ H Q I h1 => h1.elim (h.run pins s σ H Q I) (k.run pins s σ H Q I)⟩
theorem r_altL {t u : TE} (q : t σ H Q) : tAlt t u σ H Q := .inl q
theorem r_altR {t u : TE} (q : u σ H Q) : tAlt t u σ H Q := .inr q
theorem r_non {P : Prop} (q : P) : V.non = .non ∧ P := ⟨rfl, q⟩
/-- isinstance against any class -/
theorem r_isiG {K : PySem.W.Frag} {v c : V} {t u : Value} {b : Bool} (ty : TyX K H v t) (hc : ClsV c u) (h : PySem.W.kitOne K t u = some b) (q : Q (.bl b) H) : rIsi K [v, c] H Q := ⟨v, c, t, u, b, rfl, hc, ty, h, q⟩
/-- C(..) in a try: what leaves goes by the names as they stand -/
theorem run_makeS {CX : CXT} {k : Nat} {fi : Addr} {fd : FuncData} {ps : List Str} {sp : Sp} {E : XK} {args : List Value} {vs : List V} (M : Mk X.K C fi) (F : FnOk X.prog X.w X.K X.mg X.base CX k fi fd ps sp)
    (room : Room (k + 1) X.A) (bnd : Binds X.K fd ps []) (out : PassesAt CX X σ E) (I : Inv X pins σ H s) (rel : Vals vs args)
    (h : ∀ a b, H a = none → (H b = none ∧ b ≠ a) → sp (.ref a :: vs) (upd (upd H b (.own a)) a (.ins C b [])) (fun v H2 => v = .non ∧ Q (.ref a) H2) E) : wpAny (model X.prog X.w) X.A (call (.ref C) args) (EP X pins σ Q) X.xe s := by
  have body := h _ _ (I.hok.fresh (a := s.heap.objs.size + 1) (Nat.le_succ _)) ⟨I.hok.fresh (a := s.heap.objs.size) (Nat.le_refl _), Nat.ne_of_lt (Nat.lt_succ_self _)⟩
  have J := Inv.made (C := C) I
  have rel' : Vals (V.ref (s.heap.objs.size + 1) :: vs) (Value.ref (s.heap.objs.size + 1) :: args) := .cons rfl rel
  have n1 : ((Value.ref (s.heap.objs.size + 1) :: args) ++ []).length = ps.length := by
    rw [List.append_nil, ← rel'.length]
    exact F.len _ _ _ _ body
  have bt := bnd _ (Value.ref (s.heap.objs.size + 1) :: args) J.kIn n1
  rw [List.append_nil] at bt
  have run := F.run _ X.stack _ _ _ _ _ _ E (room.make C args []) (J.env0.make C args []) bt rel' body
  refine wpAny_call (make_map (f := fi) I.kIn M.makes M.init (beq_iff_eq.mp M.fn) (codeAny_mono run ?_))
  intro res st post
  match res, post with
  | .error e, post => exact out pins _ _ e st J post
  | .ok (.ret u), post =>
    obtain ⟨v, H2, I2, ru, ev, q⟩ := J.after post
    subst ev
    exact And.intro ru (show EP X pins σ Q (Value.ref (s.heap.objs.size + 1)) _ from ⟨V.ref (s.heap.objs.size + 1), H2, I2, rfl, q⟩)
  | .ok .next, post => exact post.elim
  | .ok .brk, post => exact post.elim
  | .ok .cont, post => exact post.elim
/-- its reading: as tMake, the names' own way out -/
def tMakeS (C : Addr) (sp : Sp) (E : L2.St → XK) (t : TA) : TE := fun σ H Q => t σ H fun vs H1 => ∀ a b, H1 a = none → (H1 b = none ∧ b ≠ a) →
  sp (.ref a :: vs) (upd (upd H1 b (.own a)) a (.ins C b [])) (fun v H2 => v = .non ∧ Q (.ref a) H2) (E σ)
theorem pe_makeS {CX : CXT} {k : Nat} {fi : Addr} {fd : FuncData} {ps : List Str} {sp : Sp} {E : L2.St → XK} {e : Expr} {es : List Expr} {t : TA} (M : Mk X.K C fi) (F : FnOk X.prog X.w X.K X.mg X.base CX k fi fd ps sp)
    (room : Room (k + 1) X.A) (hg : Gl X x) (hm : X.mg x = some (.ref C)) (bnd : Binds X.K fd ps []) (out : ∀ σ, PassesAt CX X σ (E σ)) (ha : PA X (e :: es) t) (hdb : (x == ("__debug__" : Str)) = false := by decide)
    (he : starEach (e :: es) X.env = (false, eval e X.env) :: starEach es X.env := by rfl) (hpl : (backTo pos (starEach es X.env)).any (·.1) = false := by rfl) :
    PE X (.Call (.Name x p) (e :: es) [] pos) (tMakeS C sp E t) := by
  constructor
  intro pins s σ H Q I h
  refine wpAny_Call_Name_kw (ld_glob I hg hm ?_ hdb)
  have args := ha.run pos pins s σ H _ I h
  refine PySem.W.callWith_K (h₀ := X.base) I.ok.mod.kin M.kp (thn args ?_) he hpl
  rintro us s1 ⟨vs, H1, I1, r, q⟩
  exact ⟨I1.kIn, run_makeS M F room bnd (out σ) I1 r q⟩
theorem r_makeS {sp : Sp} {W : WX} {t : TA} (q : t σ H fun vs H1 => ∀ a b, H1 a = none → (H1 b = none ∧ b ≠ a) → sp (.ref a :: vs) (upd (upd H1 b (.own a)) a (.ins C b [])) (fun v H2 => v = .non ∧ Q (.ref a) H2) (WE W σ)) : tMakeS C sp (WE W) t σ H Q := q
/-- a comprehension that keeps none -/
theorem r_lcN {K : PySem.W.Frag} {tt : TT} {te : TE} {ws : List Nat} {j : Nat} {p : Addr} {xs : List V} (hx : SqL K H p xs) (hw : ∀ x, wipe ((wipe σ ws).set j (some x)) ws = wipe σ ws)
    (he : ∀ (x : V) (H1 : Hp) (B : Bool → Hp → Prop), x ∈ xs → Same H H1 → (∀ H2, Same H1 H2 → B false H2) → tt ((wipe σ ws).set j (some x)) H1 B)
    (q : ∀ D H1, H D = none → Same H H1 → H1 D = some (.lst []) → Q (.ref D) H1) :
    ∃ a, V.ref p = .ref a ∧ (∃ xs, SqL K H a xs) ∧ LcW (Itl K a) (gName j) tt te ws σ H Q := by
  refine ⟨p, rfl, ⟨xs, hx⟩, fun D hD => lc_list (K := K) (a := p) (xs := xs) (fun i H' => Same H H' ∧ H' D = some (.lst [])) ⟨Same.new (Same.refl H) hD, upd_same⟩ (fun i H' _ e => Same.seq e.1 hx) (fun i x H' hi e => ?_) (fun H' e => q D H' hD e.1 e.2)⟩
  refine ⟨hw x, ?_⟩
  show tt _ _ _
  refine he x H' _ (List.mem_of_getElem? hi) e.1 (fun H2 s2 => ?_)
  rw [if_neg (fun z => by cases z)]
  exact ⟨Same.trans e.1 s2, s2 _ _ e.2⟩
end
end Vs

/-! ## texts -/
namespace Vs
open PySem PySem.Spec PyProof.Rows L2
/-- a sign in a text -/
def rInC : R2 := fun x y H Q => ∃ (c : Nat) (z : Str), x = .str ⟨#[c]⟩ ∧ y = .str z ∧ Q (.bl (decide (c ∈ z.cps.toList))) H
section
variable {K : PySem.W.Frag} {σ : L2.St} {H : Hp} {Q : VK} {te : TE} {ws : List Nat}
theorem r_iStr {R : It → Hp → Prop} (q : te σ H fun v H1 => ∃ x, v = .str x ∧ R (Its x) H1) : iStr te σ H R := q
/-- a comprehension over a text, no test, nothing laid -/
theorem r_lcS {j : Nat} {z : Str} (f : Nat → V) (hz : z.cps.size ≤ 100000) (hw : ∀ x, wipe ((wipe σ ws).set j (some x)) ws = wipe σ ws)
    (he : ∀ (c : Nat) (D : Addr) (acc : List V) (Q' : VK), c ∈ z.cps.toList → H D = none → Q' (f c) (upd H D (.lst acc)) → te ((wipe σ ws).set j (some (.str ⟨#[c]⟩))) (upd H D (.lst acc)) Q')
    (q : ∀ D, H D = none → Q (.ref D) (upd H D (.lst (z.cps.toList.map f)))) :
    ∃ x, V.str z = .str x ∧ LcW (Its x) (gName j) tYes te ws σ H Q := by
  refine ⟨z, rfl, fun D hD => ⟨fun i m H' => m = z.cps.size - i ∧ i ≤ z.cps.size ∧ H' = upd H D (.lst ((z.cps.toList.take i).map f)), ⟨z.cps.size, by simp, Nat.zero_le _, by simp⟩, ?_⟩⟩
  rintro i m H' ⟨rfl, hi, rfl⟩
  by_cases hlt : i < z.cps.size
  · refine .inr ⟨hlt, fun H2 => H2 = upd H D (.lst ((z.cps.toList.take (i + 1)).map f)), fun H2 e => ⟨z.cps.size - (i + 1), by omega, rfl, hlt, e⟩, fun x H2 y => ?_⟩
    obtain ⟨rfl, c, hc, rfl⟩ := y
    refine ⟨hw _, ?_⟩
    show te _ _ _
    have hc2 : z.cps.toList[i]? = some c := by rw [← hc]; simp
    refine he c D _ _ (List.mem_of_getElem? hc2) hD ⟨_, upd_same, ?_, ?_⟩
    · rw [List.length_map, List.length_take]
      have h2 : (100000 : Nat) < sizeLine := by rw [sizeLine_eq]; decide
      omega
    · rw [upd2]
      congr 2
      rw [List.take_add_one, hc2, List.map_append]
      rfl
  · refine .inl ⟨?_, ?_⟩
    · show z.cps.size ≤ i
      omega
    · have e : z.cps.toList.take i = z.cps.toList := List.take_of_length_le (by simp; omega)
      rw [e]
      exact q D hD
theorem r_inC {c : Nat} {z : Str} (q : Q (.bl (decide (c ∈ z.cps.toList))) H) : rInC (.str ⟨#[c]⟩) (.str z) H Q := ⟨c, z, rfl, rfl, q⟩
/-- a text some times over -/
def rTimS : R2 := fun x y H Q => ∃ (z : Str) (n : Int), x = .str z ∧ y = .int n ∧ MulOk z n ∧ Q (.str (Txt.mul z n)) H
theorem op_timS {X : Cx} : OpR X (binaryOp .Mult) rTimS := by
  intro pins s σ H x y v u Q I rx ry h
  obtain ⟨z, n, rfl, rfl, ok, q⟩ := h
  obtain ⟨t, rfl⟩ := rx
  obtain ⟨t', rfl⟩ := ry
  exact SB.mul ok fun t2 k => ⟨.str (Txt.mul z n), H, I.tok _, ⟨_, rfl⟩, q⟩
theorem r_timS {z : Str} {n : Int} (ok : MulOk z n) (q : Q (.str (Txt.mul z n)) H) : rTimS (.str z) (.int n) H Q := ⟨z, n, rfl, rfl, ok, q⟩
/-- two texts behind each other; a part of a text -/
def rCatS : R2 := fun x y H Q => ∃ i j, x = .str i ∧ y = .str j ∧ i.length + j.length ≤ sizeLine ∧ Q (.str (i ++ j)) H
theorem r_catS {i j : Str} (h : i.length + j.length ≤ sizeLine) (q : Q (.str (i ++ j)) H) : rCatS (.str i) (.str j) H Q := ⟨i, j, rfl, rfl, h, q⟩
theorem op_catS {X : Cx} : OpR X (binaryOp .Add) rCatS := op_add_str
theorem r_slS {z : Str} {lo hi : Option Int} (h : z.length ≤ sizeLine) (q : Q (.str (cutS z lo hi)) H) : rSlS (.str z) lo hi H Q := ⟨z, rfl, h, q⟩
end
end Vs

/-! ## comprehensions whose elements change the heap; more of texts -/
namespace Vs
open PySem PySem.Spec PyProof.Rows L2
section
variable {K : PySem.W.Frag} {σ : L2.St} {H : Hp} {Q : VK} {te : TE} {ws : List Nat}
theorem lc_any {J : It} {n : Nat} {G : Hp → Prop} {Y : Nat → Hp → V → Hp → Prop} (w : Walk J n G Y) (hn : n ≤ 100000) {j : Nat} (Pv : Addr → Nat → List V → Hp → Prop)
    (hw : ∀ x, wipe ((wipe σ ws).set j (some x)) ws = wipe σ ws) (hY : ∀ i H x H', Y i H x H' → H' = H)
    (h0 : ∀ D, H D = none → Pv D 0 [] (upd H D (.lst [])))
    (hG : ∀ D i acc H', Pv D i acc H' → G H')
    (hs : ∀ (D : Addr) (i : Nat) (x : V) (acc : List V) (H' : Hp) (Q' : VK), H D = none → i < n → Y i H' x H' → H' D = some (.lst acc) → Pv D i acc H' → (∀ y H4, H4 D = some (.lst acc) → Pv D (i + 1) (acc ++ [y]) (upd H4 D (.lst (acc ++ [y]))) → Q' y H4) → te ((wipe σ ws).set j (some x)) H' Q')
    (hd : ∀ D acc H', H D = none → H' D = some (.lst acc) → acc.length = n → Pv D n acc H' → Q (.ref D) H') : LcW J (gName j) tYes te ws σ H Q := by
  intro D hD
  refine lc_it w (fun i H' => ∃ acc, H' D = some (.lst acc) ∧ acc.length = i ∧ Pv D i acc H') ⟨[], upd_same, rfl, h0 D hD⟩ (fun i H' _ ⟨acc, _, _, p⟩ => hG D i acc H' p) (fun i x H1 H' hi ⟨acc, ha, hl, p⟩ y => ?_) (fun H' ⟨acc, ha, hl, p⟩ => hd D acc H' hD ha hl p)
  have e := hY _ _ _ _ y
  subst e
  refine ⟨hw x, ?_⟩
  show te _ _ _
  refine hs D i x acc _ _ hD hi y ha p (fun y H4 h4 p4 => ⟨acc, h4, ?_, acc ++ [y], upd_same, by simp [hl], p4⟩)
  have h2 : (100000 : Nat) < sizeLine := by rw [sizeLine_eq]; decide
  omega
theorem r_lcR1 {j : Nat} {k : Int} (Pv : Addr → Nat → List V → Hp → Prop) (b : k ≤ 100000) (b0 : 0 ≤ k)
    (hw : ∀ x, wipe ((wipe σ ws).set j (some x)) ws = wipe σ ws)
    (h0 : ∀ D, H D = none → Pv D 0 [] (upd H D (.lst [])))
    (hs : ∀ (D : Addr) (i : Nat) (acc : List V) (H' : Hp) (Q' : VK), H D = none → i < k.toNat → H' D = some (.lst acc) → Pv D i acc H' → (∀ y H4, H4 D = some (.lst acc) → Pv D (i + 1) (acc ++ [y]) (upd H4 D (.lst (acc ++ [y]))) → Q' y H4) → te ((wipe σ ws).set j (some (.int (i : Int)))) H' Q')
    (hd : ∀ D acc H', H D = none → H' D = some (.lst acc) → acc.length = k.toNat → Pv D k.toNat acc H' → Q (.ref D) H') :
    ∃ k2 : Int, [V.int k] = [.int k2] ∧ -(2 ^ 62) ≤ k2 ∧ k2 < 2 ^ 62 ∧ LcW (Itr 0 k2.toNat) (gName j) tYes te ws σ H Q :=
  ⟨k, rfl, by omega, by omega, lc_any walk_range (by omega) Pv hw (fun _ _ _ _ y => y.1) h0 (fun _ _ _ _ _ => trivial)
    (fun D i x acc H' Q' hD hi y ha p hq => by
      have e : x = .int (i : Int) := y.2.trans (congrArg V.int (Int.zero_add _))
      rw [e]; exact hs D i acc H' Q' hD hi ha p hq) hd⟩
theorem r_lcL {j : Nat} {p : Addr} {xs : List V} (Pv : Addr → Nat → List V → Hp → Prop) (hx : SqL K H p xs) (hz : xs.length ≤ 100000)
    (hw : ∀ x, wipe ((wipe σ ws).set j (some x)) ws = wipe σ ws)
    (h0 : ∀ D, H D = none → Pv D 0 [] (upd H D (.lst [])))
    (hG : ∀ D i acc H', Pv D i acc H' → SqL K H' p xs)
    (hs : ∀ (D : Addr) (i : Nat) (x : V) (acc : List V) (H' : Hp) (Q' : VK), H D = none → xs[i]? = some x → H' D = some (.lst acc) → Pv D i acc H' → (∀ y H4, H4 D = some (.lst acc) → Pv D (i + 1) (acc ++ [y]) (upd H4 D (.lst (acc ++ [y]))) → Q' y H4) → te ((wipe σ ws).set j (some x)) H' Q')
    (hd : ∀ D acc H', H D = none → H' D = some (.lst acc) → acc.length = xs.length → Pv D xs.length acc H' → Q (.ref D) H') :
    ∃ a, V.ref p = .ref a ∧ (∃ xs, SqL K H a xs) ∧ LcW (Itl K a) (gName j) tYes te ws σ H Q :=
  ⟨p, rfl, ⟨xs, hx⟩, lc_any walk_list hz Pv hw (fun _ _ _ _ y => y.1) h0 hG (fun D i x acc H' Q' hD hi y ha p hq => hs D i x acc H' Q' hD y.2 ha p hq) hd⟩
theorem r_lcT {j : Nat} {p : Addr} {xs : List V} (Pv : Addr → Nat → List V → Hp → Prop) (hx : SqT K H p xs) (hz : xs.length ≤ 100000)
    (hw : ∀ x, wipe ((wipe σ ws).set j (some x)) ws = wipe σ ws)
    (h0 : ∀ D, H D = none → Pv D 0 [] (upd H D (.lst [])))
    (hG : ∀ D i acc H', Pv D i acc H' → SqT K H' p xs)
    (hs : ∀ (D : Addr) (i : Nat) (x : V) (acc : List V) (H' : Hp) (Q' : VK), H D = none → xs[i]? = some x → H' D = some (.lst acc) → Pv D i acc H' → (∀ y H4, H4 D = some (.lst acc) → Pv D (i + 1) (acc ++ [y]) (upd H4 D (.lst (acc ++ [y]))) → Q' y H4) → te ((wipe σ ws).set j (some x)) H' Q')
    (hd : ∀ D acc H', H D = none → H' D = some (.lst acc) → acc.length = xs.length → Pv D xs.length acc H' → Q (.ref D) H') :
    ∃ a, V.ref p = .ref a ∧ (∃ xs, SqT K H a xs) ∧ LcW (Itt K a) (gName j) tYes te ws σ H Q :=
  ⟨p, rfl, ⟨xs, hx⟩, lc_any walk_tup hz Pv hw (fun _ _ _ _ y => y.1) h0 hG (fun D i x acc H' Q' hD hi y ha p hq => hs D i x acc H' Q' hD y.2 ha p hq) hd⟩
theorem lc_anyT {tt : TT} {J : It} {n : Nat} {G : Hp → Prop} {Y : Nat → Hp → V → Hp → Prop} (w : Walk J n G Y) (hn : n ≤ 100000) {j : Nat} (Pv : Addr → Nat → List V → Hp → Prop)
    (hw : ∀ x, wipe ((wipe σ ws).set j (some x)) ws = wipe σ ws) (hY : ∀ i H x H', Y i H x H' → H' = H)
    (h0 : ∀ D, H D = none → Pv D 0 [] (upd H D (.lst [])))
    (hG : ∀ D i acc H', Pv D i acc H' → G H')
    (hs : ∀ (D : Addr) (i : Nat) (x : V) (acc : List V) (H' : Hp) (B : Bool → Hp → Prop), H D = none → i < n → Y i H' x H' → H' D = some (.lst acc) → Pv D i acc H' → (∀ H3, H3 D = some (.lst acc) → Pv D (i + 1) acc H3 → B false H3) →
      (∀ H3, te ((wipe σ ws).set j (some x)) H3 (fun y H4 => H4 D = some (.lst acc) ∧ Pv D (i + 1) (acc ++ [y]) (upd H4 D (.lst (acc ++ [y])))) → B true H3) → tt ((wipe σ ws).set j (some x)) H' B)
    (hd : ∀ D acc H', H D = none → H' D = some (.lst acc) → Pv D n acc H' → Q (.ref D) H')
    (hm : ∀ {σ' H' A B}, (∀ y H4, A y H4 → B y H4) → te σ' H' A → te σ' H' B) : LcW J (gName j) tt te ws σ H Q := by
  intro D hD
  refine lc_it w (fun i H' => ∃ acc, H' D = some (.lst acc) ∧ acc.length ≤ i ∧ Pv D i acc H') ⟨[], upd_same, Nat.le_refl _, h0 D hD⟩ (fun i H' _ ⟨acc, _, _, p⟩ => hG D i acc H' p) (fun i x H1 H' hi ⟨acc, ha, hl, p⟩ y => ?_) (fun H' ⟨acc, ha, hl, p⟩ => hd D acc H' hD ha p)
  have e := hY _ _ _ _ y
  subst e
  refine ⟨hw x, ?_⟩
  show tt _ _ _
  refine hs D i x acc _ _ hD hi y ha p (fun H3 h3 p3 => ?_) (fun H3 ht => ?_)
  · rw [if_neg (fun z => by cases z)]
    exact ⟨acc, h3, by omega, p3⟩
  · rw [if_pos rfl]
    refine hm (fun y H4 hh => ⟨acc, hh.1, ?_, acc ++ [y], upd_same, by simp; omega, hh.2⟩) ht
    have h2 : (100000 : Nat) < sizeLine := by rw [sizeLine_eq]; decide
    omega
theorem mono_var {k : Nat} : ∀ {σ' : L2.St} {H' : Hp} {A B : VK}, (∀ y H4, A y H4 → B y H4) → tVar k σ' H' A → tVar k σ' H' B := fun h ⟨v, e, q⟩ => ⟨v, e, h _ _ q⟩
/-- over a list, with a test; the element is a name -/
theorem r_lcLT {tt : TT} {j k : Nat} {p : Addr} {xs : List V} (Pv : Addr → Nat → List V → Hp → Prop) (hx : SqL K H p xs) (hz : xs.length ≤ 100000)
    (hw : ∀ x, wipe ((wipe σ ws).set j (some x)) ws = wipe σ ws)
    (h0 : ∀ D, H D = none → Pv D 0 [] (upd H D (.lst [])))
    (hG : ∀ D i acc H', Pv D i acc H' → SqL K H' p xs)
    (hs : ∀ (D : Addr) (i : Nat) (x : V) (acc : List V) (H' : Hp) (B : Bool → Hp → Prop), H D = none → xs[i]? = some x → H' D = some (.lst acc) → Pv D i acc H' → (∀ H3, H3 D = some (.lst acc) → Pv D (i + 1) acc H3 → B false H3) →
      (∀ H3, tVar k ((wipe σ ws).set j (some x)) H3 (fun y H4 => H4 D = some (.lst acc) ∧ Pv D (i + 1) (acc ++ [y]) (upd H4 D (.lst (acc ++ [y])))) → B true H3) → tt ((wipe σ ws).set j (some x)) H' B)
    (hd : ∀ D acc H', H D = none → H' D = some (.lst acc) → Pv D xs.length acc H' → Q (.ref D) H') :
    ∃ a, V.ref p = .ref a ∧ (∃ xs, SqL K H a xs) ∧ LcW (Itl K a) (gName j) tt (tVar k) ws σ H Q :=
  ⟨p, rfl, ⟨xs, hx⟩, lc_anyT walk_list hz Pv hw (fun _ _ _ _ y => y.1) h0 hG (fun D i x acc H' B hD hi y ha p h1 h2 => hs D i x acc H' B hD y.2 ha p h1 h2) hd mono_var⟩
/-- over range(k), the element is told by the number alone -/
theorem r_lcRP {j : Nat} {k : Int} (f : Nat → V) (b : k ≤ 100000) (b0 : 0 ≤ k) (hw : ∀ x, wipe ((wipe σ ws).set j (some x)) ws = wipe σ ws)
    (hs : ∀ (i : Nat) (H' : Hp) (Q' : VK), i < k.toNat → Q' (f i) H' → te ((wipe σ ws).set j (some (.int (i : Int)))) H' Q')
    (q : ∀ D, H D = none → Q (.ref D) (upd H D (.lst ((List.range k.toNat).map f)))) :
    ∃ k2 : Int, [V.int k] = [.int k2] ∧ -(2 ^ 62) ≤ k2 ∧ k2 < 2 ^ 62 ∧ LcW (Itr 0 k2.toNat) (gName j) tYes te ws σ H Q :=
  r_lcR1 (fun D i acc H' => acc = (List.range i).map f ∧ H' = upd H D (.lst acc)) b b0 hw (fun D _ => ⟨rfl, rfl⟩)
    (fun D i acc H' Q' _ hi _ p hq => hs i H' Q' hi (hq _ _ (by rw [p.2]; exact upd_same) ⟨by rw [p.1, List.range_succ, List.map_append]; rfl, by rw [p.2, upd2]⟩))
    (fun D acc H' hD _ _ p => by rw [p.2, p.1]; exact q D hD)
/-! texts -/
def rUpper : V → List V → Hp → VK → Prop := fun x xs H Q => ∃ a, x = .str a ∧ xs = [] ∧ a.length ≤ 5592405 ∧ Q (.str (Txt.upper a)) H
def rJoin (K : PySem.W.Frag) : V → List V → Hp → VK → Prop := fun x xs H Q => ∃ a p, ∃ ys : List Str, x = .str a ∧ xs = [.ref p] ∧ (SqL K H p (ys.map V.str) ∨ SqT K H p (ys.map V.str)) ∧ (ys.map (·.length)).sum + ys.length * a.length ≤ 16777216 ∧ Q (.str (Txt.join a ys)) H
def rStrI : List V → Hp → VK → Prop := fun xs H Q => ∃ i, xs = [.int i] ∧ i.natAbs.log2 < 1920 ∧ Q (.str (Str.ofString (toString i))) H
theorem r_m0 {r : V → List V → Hp → VK → Prop} (q : te σ H fun x H1 => (∃ a, x = .str a) ∧ r x [] H1 Q) : tM0 r te σ H Q := q
theorem r_m1 {tb : TE} {r : V → List V → Hp → VK → Prop} (q : te σ H fun x H1 => (∃ a, x = .str a) ∧ tb σ H1 fun y H2 => r x [y] H2 Q) : tM1 r te tb σ H Q := q
theorem r_exS {z : Str} {P : Prop} (q : P) : (∃ a, V.str z = .str a) ∧ P := ⟨⟨z, rfl⟩, q⟩
theorem r_upper {z : Str} (h : z.length ≤ 100000) (q : Q (.str (Txt.upper z)) H) : rUpper (.str z) [] H Q := ⟨z, rfl, rfl, by omega, q⟩
theorem r_join {z : Str} {p : Addr} {ys : List Str} (h : SqL K H p (ys.map V.str)) (l : (ys.map (·.length)).sum + ys.length * z.length ≤ 16777216) (q : Q (.str (Txt.join z ys)) H) : rJoin K (.str z) [.ref p] H Q := ⟨z, p, ys, rfl, rfl, .inl h, l, q⟩
theorem r_strI {i : Int} (h : i.natAbs.log2 < 1920) (q : Q (.str (Str.ofString (toString i))) H) : rStrI [.int i] H Q := ⟨i, rfl, h, q⟩
theorem log2_small {i : Int} (h0 : -1000000000000000000 ≤ i) (h1 : i ≤ 1000000000000000000) : i.natAbs.log2 < 1920 := by
  have h : i.natAbs ≤ 1000000000000000000 := by omega
  have h2 : i.natAbs < 2 ^ 1920 := Nat.lt_of_le_of_lt h (by decide)
  by_cases z : i.natAbs = 0
  · rw [z]; decide
  · exact (Nat.log2_lt z).mpr h2
end
theorem glued_go {sep : Str} : ∀ (ys : List Str) (acc : Array Nat), (List.foldl (fun acc p => acc ++ sep.cps ++ p.cps) acc ys).toList = acc.toList ++ (ys.map fun y => sep.cps.toList ++ y.cps.toList).flatten
  | [], acc => by simp
  | y :: ys, acc => by
    rw [List.foldl_cons, glued_go ys]
    simp
theorem join_l {sep : Str} {y : Str} {ys : List Str} : (Txt.join sep (y :: ys)).cps.toList = y.cps.toList ++ (ys.map fun y => sep.cps.toList ++ y.cps.toList).flatten := by
  exact glued_go _ _
theorem join0 {sep : Str} : (Txt.join sep []).cps.toList = [] := rfl
/-- joined by nothing -/
theorem join_e {ys : List Str} : (Txt.join "" ys).cps.toList = (ys.map fun y => y.cps.toList).flatten := by
  cases ys with
  | nil => rfl
  | cons y ys =>
    rw [join_l, List.map_cons, List.flatten_cons]
    rfl
theorem mul_l {z : Str} {n : Int} (h : 1 ≤ n) : (Txt.mul z n).cps.toList.length = z.cps.toList.length * n.toNat := by
  unfold Txt.mul
  rw [if_neg (by omega)]
  split
  · rename_i hh
    simp only [Bool.or_eq_true, beq_iff_eq] at hh
    rcases hh with rfl | hz
    · simp
    · have : z.cps.toList.length = 0 := by rw [Array.length_toList]; exact hz
      rw [this]; simp
  · have go : ∀ (m : Nat) (acc : Array Nat), (List.foldl (fun x1 x2 => x1 ++ x2) acc (List.replicate m z.cps)).toList.length = acc.toList.length + z.cps.toList.length * m := by
      intro m
      induction m with
      | zero => intro acc; simp
      | succ m ih =>
        intro acc
        rw [List.replicate_succ, List.foldl_cons, ih]
        simp only [Array.length_toList, Array.size_append]
        rw [Nat.mul_succ]; omega
    rw [go]
    simp
theorem upper_l {z : Str} : (Txt.upper z).cps.toList = (z.cps.toList.map Unicode.upperOf).flatten := by
  unfold Txt.upper placed
  simp only [Array.toList_flatten, Array.toList_mapIdx]
  congr 1
  apply List.ext_getElem
  · simp
  · intro i h1 h2
    simp
theorem mulOk_small {z : Str} {n : Int} (h0 : 0 ≤ n) (h1 : n ≤ 1000) (hz : z.length ≤ 1000) : MulOk z n := by
  refine ⟨?_, fun a b => ?_, fun a b => ?_⟩
  · rw [decide_eq_false (by omega), decide_eq_false (by omega)]; rfl
  · have : (1000 : Int) ≤ (2 ^ 63 - 1) / n := by
      rw [Int.le_ediv_iff_mul_le (by omega)]
      have : 1000 * n ≤ 1000 * 1000 := Int.mul_le_mul_of_nonneg_left h1 (by decide)
      omega
    omega
  · unfold Builtin.Str.tooLong
    have : z.length * n.toNat ≤ 1000 * 1000 := Nat.mul_le_mul hz (by omega)
    rw [sizeLine_eq]
    exact decide_eq_false (by omega)
end Vs

/-! ## own exceptions with an own __init__ -/
namespace Vs
open PySem PySem.Spec PyProof.Rows L2
/-- what the written part says of such a class -/
def oexB (K : PySem.W.Frag) (C f : Addr) : Bool :=
  (match K.lookup C with
    | some ⟨.type "type", _, .cls cd, sl⟩ => (match cd.mro, sl.toList with
      | .ref C' :: bm, [_, _, _, _, some (.builtin n), _] => C' == C && n == "ValueError.__new__" && !cd.hasDel && cd.hasDict && PySem.HandSPX.refsVE bm
      | _, _ => false)
    | _ => false) && (decide (PySem.W.findIn K (.ref C) "__setattr__" = some (some (.builtin "object.__setattr__"))) && (decide (PySem.W.subIn K (.ref C) (.type "BaseException") = some true) &&
  (decide (PySem.W.typeIn K (.ref C) = some (.type "type")) && (PySem.W.keepIn K (.ref C) && (decide (PySem.W.findIn K (.ref C) "__init__" = some (some (.ref f))) && decide (PySem.W.typeIn K (.ref f) = some (.type "function")))))))
structure OexD (K : PySem.W.Frag) (C f : Addr) : Prop where
  c : OexC K C
  i : PySem.W.findIn K (.ref C) "__init__" = some (some (.ref f))
  t : PySem.W.typeIn K (.ref f) = some (.type "function")
theorem oexB_ok {K : PySem.W.Frag} {C f : Addr} (h : oexB K C f = true) : OexD K C f := by
  obtain ⟨q, h⟩ := b2 h
  obtain ⟨h2, h⟩ := b2 h
  obtain ⟨h3, h⟩ := b2 h
  obtain ⟨h4, h⟩ := b2 h
  obtain ⟨h5, h⟩ := b2 h
  obtain ⟨h6, h7⟩ := b2 h
  refine ⟨⟨?_, of_decide_eq_true h2, of_decide_eq_true h3, of_decide_eq_true h4, h5⟩, of_decide_eq_true h6, of_decide_eq_true h7⟩
  split at q
  · rename_i dd cd sl ho
    split at q
    · rename_i C' bm k0 k1 k2 k3 n k5 hm hs
      simp only [Bool.and_eq_true, beq_iff_eq, Bool.not_eq_true'] at q
      obtain ⟨⟨⟨⟨rfl, rfl⟩, hdel⟩, hdct⟩, ht⟩ := q
      obtain ⟨nm, bs, mro, ns, qn, hd, sn, sub, ab, col, del⟩ := cd
      dsimp only at hm hdel hdct
      subst hm hdel hdct
      have hsl : sl = #[k0, k1, k2, k3, some (.builtin "ValueError.__new__"), k5] := by
        obtain ⟨l⟩ := sl
        simp only at hs
        rw [hs]
      subst hsl
      exact ⟨nm, qn, ns, bs, bm, sn, sub, ab, col, dd, k0, k1, k2, k3, k5, ho, ht⟩
    · cases q
  · cases q
/-- a class's own way to ValueError.__init__ -/
def beB (K : PySem.W.Frag) (B : Addr) : Bool := decide (PySem.W.specialIn K (.ref B) "__getattribute__" = some (some (.builtin "type.__getattribute__"))) && (decide (PySem.W.typeIn K (.ref B) = some (.type "type")) &&
  (PySem.W.readsIn K B (.type "type") && (match PySem.W.findCls K (.ref B) (.type "type") "__init__" with | some (.val (.builtin n)) => n == "ValueError.__init__" | _ => false)))
structure BeC (K : PySem.W.Frag) (B : Addr) : Prop where
  g : PySem.W.specialIn K (.ref B) "__getattribute__" = some (some (.builtin "type.__getattribute__"))
  t : PySem.W.typeIn K (.ref B) = some (.type "type")
  r : PySem.W.readsIn K B (.type "type") = true
  v : PySem.W.findCls K (.ref B) (.type "type") "__init__" = some (.val (.builtin "ValueError.__init__"))
theorem beB_ok {K : PySem.W.Frag} {B : Addr} (h : beB K B = true) : BeC K B := by
  obtain ⟨h1, h⟩ := b2 h
  obtain ⟨h2, h⟩ := b2 h
  obtain ⟨h3, h4⟩ := b2 h
  refine ⟨of_decide_eq_true h1, of_decide_eq_true h2, h3, ?_⟩
  split at h4
  · rename_i n e
    have := beq_iff_eq.mp h4
    subst this
    exact e
  · cases h4
section
variable {X : Cx} {e : Expr} {es : List Expr} {ta : TA} {p p1 p2 pos : Pos}
/-- B.__init__(self, ..), B an own class over ValueError -/
theorem pe_beinit {pl : Sem Bool} {x : Str} {B : Addr} (T : BeC X.K B) (hg : Gl X x) (hm : X.mg x = some (.ref B)) (ha : PA X (e :: es) ta) (hdb : (x == ("__debug__" : Str)) = false := by decide)
    (hc : eval (.Call (.Attribute (.Name x p1) "__init__" p2) (e :: es) [] pos) X.env = (do
      let ov ← eval (.Name x p1) X.env
      standAt p2.atName
      let (f, first) ← holding [ov] (getMethod ov "__init__" pl)
      callWith pos f first (backTo pos (starEach (e :: es) X.env)) (backToKw pos (keywordEach [] X.env))) := by rfl)
    (he : starEach (e :: es) X.env = (false, eval e X.env) :: starEach es X.env := by rfl) (hpl : (backTo pos (starEach es X.env)).any (·.1) = false := by rfl) :
    PE X (.Call (.Attribute (.Name x p1) "__init__" p2) (e :: es) [] pos) (tVeI X.K ta) := by
  refine ⟨fun pins s σ H Q I h => ?_⟩
  refine PySem.W.methodCall_KW (ld_glob I hg hm ?_ hdb) hc
  obtain ⟨m, fr⟩ := I.fr
  refine PySem.W.method_of_cls fr I.ok.mod.kin T.g (PySem.W.cls_val fr I.ok.mod.kin T.t T.r T.v (by decide +kernel) ?_)
  show wpAny _ _ (callWith pos (Value.builtin "ValueError.__init__") [] (backTo pos (starEach (e :: es) X.env)) []) _ _ _
  refine PyProof.Rows.callWith_method1 (thn (ha.run pos pins _ σ H _ (I.tok _) h) fun us s1 ⟨vs, H1, I1, r1, a, C, ws, ev, hl, T, ea, q⟩ => ?_) he hpl
  subst ev
  cases r1 with
  | @cons _ u0 _ ur ra rw' =>
    obtain rfl : u0 = Value.ref a := ra
    have hlen : ur.length ≤ sizeLine := by
      rw [← Paired.length rw', sizeLine_eq]
      omega
    exact oinit_ok T I1 ea hlen fun s' J => ⟨.non, H1, J, rfl, q⟩
end
/-- raise C(..): the reading -/
def tRaiseO (E : XK) (C : Addr) (sp : Sp) (dvs : List V) (ta : TA) : TS := fun _ σ H => tMkO C sp dvs ta σ H E
section
variable {K : PySem.W.Frag} {σ : L2.St} {H : Hp} {Q : VK} {D : Ends} {E : XK} {C : Addr}
theorem r_raiseO {sp : Sp} {dvs : List V} {ta : TA} (q : ta σ H fun vs H1 => vs.length ≤ 1000 ∧ ∀ a, H1 a = none → sp (.ref a :: (vs ++ dvs)) (upd H1 a (exo a C none))
  (fun v H2 => v = .non ∧ ∃ (d : Addr) (fs : List (Str × V)), H2 a = some (exo a C (some d)) ∧ H2 d = some (exd d fs) ∧ H1 d = none ∧ E (.ref C) (some d) (upd (del H2 a) d (.xd fs))) (fun _ _ _ => False)) : tRaiseO E C sp dvs ta D σ H := q
theorem r_veI {ta : TA} (q : ta σ H fun vs H1 => ∃ (a C : Addr) (ws : List V), vs = .ref a :: ws ∧ ws.length ≤ 1000 ∧ OexC K C ∧ H1 a = some (exo a C none) ∧ Q .non H1) : tVeI K ta σ H Q := q
theorem r_veIa {a : Addr} {ws : List V} {P : Prop} (hl : ws.length ≤ 1000) (o : OexC K C) (h : H a = some (exo a C none)) (q : P) : ∃ (a' C : Addr) (ws' : List V), V.ref a :: ws = .ref a' :: ws' ∧ ws'.length ≤ 1000 ∧ OexC K C ∧ H a' = some (exo a' C none) ∧ P := ⟨a, C, ws, rfl, hl, o, h, q⟩
def rOst (K : PySem.W.Frag) (f : Str) (y x : V) (H2 : Hp) (P : Hp → Prop) : Prop := ∃ a C : Addr, x = .ref a ∧ OexC K C ∧ PySem.W.findIn K (.ref C) f = some none ∧
  ((H2 a = some (exo a C none) ∧ ∀ dx, H2 dx = none → dx ≠ a → P (upd (upd H2 dx (exd dx [(f, y)])) a (exo a C (some dx)))) ∨
    ∃ (dx : Addr) (fs : List (Str × V)), H2 a = some (exo a C (some dx)) ∧ H2 dx = some (exd dx fs) ∧ fs.length ≤ 900 ∧ P (upd H2 dx (exd dx ((f, y) :: fs))))
theorem r_ost {f : Str} {to te : TE} (q : te σ H fun y H1 => to σ H1 fun x H2 => rOst K f y x H2 fun H3 => D.nx σ H3) : tOst K f to te D σ H := q
theorem r_ostN {a : Addr} {f : Str} {y : V} {P : Hp → Prop} (o : OexC K C) (n : PySem.W.findIn K (.ref C) f = some none) (h : H a = some (exo a C none)) (q : ∀ dx, H dx = none → dx ≠ a → P (upd (upd H dx (exd dx [(f, y)])) a (exo a C (some dx)))) : rOst K f y (.ref a) H P := ⟨a, C, rfl, o, n, .inl ⟨h, q⟩⟩
/-- what stands behind the making of an exception -/
theorem same_exc {H1 H2 : Hp} {a d : Addr} {u : HO} (na : H1 a = none) (nd : H1 d = none) (s : Same H1 H2) : Same H1 (upd (del H2 a) d u) := fun b o h => by
  rw [upd_ne (ne_of_none h nd), del_ne (ne_of_none h na)]
  exact s b o h
end
/-! isinstance of what a suite holds, with its fields or without -/
def XDok (H : Hp) (d : Option Addr) : Prop := d = none ∨ ∃ dd fs, d = some dd ∧ H dd = some (.xd fs)
def rIsY (K : PySem.W.Frag) (cls : Value) (d : Option Addr) (a : Addr) : List V → Hp → VK → Prop := fun xs H Q =>
  ∃ (c : V) (cv : Value) (D : Addr) (b : Bool), xs = [.ref a, c] ∧ cls = .ref D ∧ XDok H d ∧ ExcC K D ∧ ClsV c cv ∧ PySem.W.kitOne K (.ref D) cv = some b ∧ Q (.bl b) H
def rIsYT (K : PySem.W.Frag) (cls : Value) (d : Option Addr) (a : Addr) : List V → Hp → VK → Prop := fun xs H Q =>
  ∃ (tp : Addr) (cs : List V) (us : List Value) (D : Addr) (b : Bool), xs = [.ref a, .ref tp] ∧ H tp = some (.tup cs) ∧ cls = .ref D ∧ XDok H d ∧ ExcC K D ∧ Paired ClsV cs us ∧ PySem.W.kitAny K (.ref D) us = some b ∧ Q (.bl b) H
theorem inst_y {P : Program} {w : World} {H : Hp} {h : Heap} {a D : Addr} {oe : Obj} {d : Option Addr} (hok : HOk P w H h) (hget : h.get? a = some oe) (hz : Zc (.ref D) d oe) (hf : ∃ vs, oe.data = .fields vs) (hd : XDok H d) : ∃ od, PySem.W.InstAt h a oe D od := by
  obtain ⟨vs, hv⟩ := hf
  have hn : PySem.W.notCls oe = true := by unfold PySem.W.notCls; rw [hv]
  rcases hd with rfl | ⟨dd, fs, rfl, hx⟩
  · exact ⟨none, hget, hz.1, hn, by rw [hz.2]; trivial⟩
  · obtain ⟨mA, hns, _⟩ := (hok dd _ hx : ObjOk P w H h dd (.xd fs))
    obtain ⟨od, ho, _⟩ := lookIn_ns hns
    exact ⟨some od, hget, hz.1, hn, by rw [hz.2]; exact ho⟩
theorem excC_cls {K : PySem.W.Frag} {D : Addr} (C : ExcC K D) : (PySem.W.clsIn K D).isSome = true := by
  have h := C.hd
  unfold PySem.W.hasDictIn at h
  cases e : PySem.W.clsIn K D with
  | none => rw [e] at h; cases h
  | some _ => rfl
theorem call_isY {X : Cx} {a : Addr} {oe : Obj} {cls : Value} {d : Option Addr} {pn : List (Addr × Obj)} (hz : Zc cls d oe) (hf : ∃ vs, oe.data = .fields vs) : CallR (X.suite a ((a, oe) :: pn)) (.builtin "isinstance") (rIsY X.K cls d a) := by
  intro pins s σ H xs us Q I r h
  obtain ⟨c, cv, D, b, rfl, rfl, hd, C, hc, e, q⟩ := h
  obtain ⟨u1, u2, rfl, r1, r2⟩ := vals2 r
  cases (show u1 = Value.ref a from r1)
  have ec := hc.eq r2
  subst ec
  have hget := (I.pin (a, oe) (List.mem_append_left _ List.mem_cons_self)).1
  obtain ⟨od, J⟩ := inst_y I.hok hget hz hf hd
  exact PySem.W.kia_one (PySem.W.kitx_exc (excC_cls C) C.hg C.hk C.hs C.ha C.hn C.ht C.hm) I.kIn J e (fun z => nomatch z) fun tk => ⟨.bl b, H, I.tok tk, rfl, q⟩
theorem call_isYT {X : Cx} {a : Addr} {oe : Obj} {cls : Value} {d : Option Addr} {pn : List (Addr × Obj)} (hz : Zc cls d oe) (hf : ∃ vs, oe.data = .fields vs) : CallR (X.suite a ((a, oe) :: pn)) (.builtin "isinstance") (rIsYT X.K cls d a) := by
  intro pins s σ H xs us Q I r h
  obtain ⟨tp, cs, ws, D, b, rfl, hT, rfl, hd, C, hc, e, q⟩ := h
  obtain ⟨u1, u2, rfl, r1, r2⟩ := vals2 r
  cases (show u1 = Value.ref a from r1)
  cases (show u2 = Value.ref tp from r2)
  have hget := (I.pin (a, oe) (List.mem_append_left _ List.mem_cons_self)).1
  obtain ⟨od, J⟩ := inst_y I.hok hget hz hf hd
  have hO : ObjOk X.prog X.w H s.heap tp (.tup cs) := I.hok tp _ hT
  obtain ⟨_, its, rv, ⟨oc, od, dt, sl⟩, g1, g2, n, g3⟩ := hO
  have e4 : its = ws := ClsV.all hc rv
  subst e4
  dsimp only at g2 g3
  subst g2 g3
  exact PySem.W.kia_tup (PySem.W.kitx_exc (excC_cls C) C.hg C.hk C.hs C.ha C.hn C.ht C.hm) I.kIn J g1 e (fun z => nomatch z) fun tk => ⟨.bl b, H, I.tok tk, rfl, q⟩
theorem xd_none {H : Hp} : XDok H none := .inl rfl
theorem xd_some {H : Hp} {dd : Addr} {fs : List (Str × V)} (h : H dd = some (.xd fs)) : XDok H (some dd) := .inr ⟨dd, fs, rfl, h⟩
/-- e.f of what a suite holds -/
theorem r_xf {σ : L2.St} {H : Hp} {Q : VK} {a C : Addr} {cls : Value} {d : Option Addr} {f : Str} {te : TE} (q : te σ H fun x H1 => x = .ref a ∧ cls = .ref C ∧ ∃ (dd : Addr) (fs : List (Str × V)) (v : V), d = some dd ∧ H1 dd = some (.xd fs) ∧ fs.lookup f = some v ∧ Q v H1) : tXf a cls d C f te σ H Q := q
theorem r_xfa {H : Hp} {P : V → Prop} {a C dd : Addr} {f : Str} {fs : List (Str × V)} {v : V} (h : H dd = some (.xd fs)) (l : fs.lookup f = some v) (q : P v) : V.ref a = .ref a ∧ Value.ref C = .ref C ∧ ∃ (dd' : Addr) (fs : List (Str × V)) (v : V), some dd = some dd' ∧ H dd' = some (.xd fs) ∧ fs.lookup f = some v ∧ P v := ⟨rfl, rfl, dd, fs, v, rfl, h, l, q⟩
end Vs

/-! ## set(xs) of a list of keys of any kind, its length -/
namespace Vs
open PySem PySem.Spec PyProof.Rows L2
/-- how many unlike ones stand among the first i -/
def dcnt {κ : Type} [DecidableEq κ] (ks : List κ) : Nat → Nat
  | 0 => 0
  | i + 1 => match ks[i]? with
    | some k => if k ∈ ks.take i then dcnt ks i else dcnt ks i + 1
    | none => dcnt ks i
theorem dcnt_in {κ : Type} [DecidableEq κ] {ks : List κ} {i : Nat} {k : κ} (h : ks[i]? = some k) (z : k ∈ ks.take i) : dcnt ks (i + 1) = dcnt ks i := by
  show (match ks[i]? with | some k => if k ∈ ks.take i then dcnt ks i else dcnt ks i + 1 | none => dcnt ks i) = _
  rw [h]; exact if_pos z
theorem dcnt_new {κ : Type} [DecidableEq κ] {ks : List κ} {i : Nat} {k : κ} (h : ks[i]? = some k) (z : ¬ k ∈ ks.take i) : dcnt ks (i + 1) = dcnt ks i + 1 := by
  show (match ks[i]? with | some k => if k ∈ ks.take i then dcnt ks i else dcnt ks i + 1 | none => dcnt ks i) = _
  rw [h]; exact if_neg z
theorem dcnt_le {κ : Type} [DecidableEq κ] {ks : List κ} : ∀ i, dcnt ks i ≤ i
  | 0 => Nat.le_refl _
  | i + 1 => by
    have := dcnt_le (ks := ks) i
    unfold dcnt
    split
    · split <;> omega
    · omega
theorem dcnt_eq {κ : Type} [DecidableEq κ] {ks : List κ} : ∀ i, i ≤ ks.length → (dcnt ks i = i ↔ (ks.take i).Nodup)
  | 0, _ => by simp [dcnt]
  | i + 1, hi => by
    have hk : ks[i]? = some ks[i] := List.getElem?_eq_getElem hi
    have ih := dcnt_eq (ks := ks) i (Nat.le_of_lt hi)
    have le := dcnt_le (ks := ks) i
    have e : ks.take (i + 1) = ks.take i ++ [ks[i]] := by rw [List.take_add_one, hk]; rfl
    unfold dcnt
    rw [hk, e]
    dsimp only
    rw [List.nodup_append]
    by_cases hm : ks[i] ∈ ks.take i
    · rw [if_pos hm]
      exact ⟨fun z => by omega, fun z => absurd rfl (z.2.2 _ hm _ (List.mem_singleton.mpr rfl))⟩
    · rw [if_neg hm]
      constructor
      · intro z
        refine ⟨ih.mp (by omega), by simp, fun a ha b hb => ?_⟩
        rw [List.mem_singleton] at hb
        subst hb
        exact fun q => hm (q ▸ ha)
      · intro z
        have := ih.mpr z.1
        omega
/-- len(set(xs)), xs a list of texts -/
def tLenSetG (K : PySem.W.Frag) (ta : TE) : TE := fun σ H Q => ta σ H fun x H1 => ∃ (l : Addr) (zs : List Str), x = .ref l ∧ SqL K H1 l (zs.map V.str) ∧ zs.length ≤ 2000 ∧ Q (.int (dcnt zs zs.length : Nat)) H1
section
variable {K : PySem.W.Frag} {σ : L2.St} {H : Hp} {Q : VK} {ta : TE}
theorem r_lenSetG (q : ta σ H fun x H1 => ∃ (l : Addr) (zs : List Str), x = .ref l ∧ SqL K H1 l (zs.map V.str) ∧ zs.length ≤ 2000 ∧ Q (.int (dcnt zs zs.length : Nat)) H1) : tLenSetG K ta σ H Q := q
theorem r_lsg {l : Addr} {zs : List Str} {P : List Str → Prop} (h : SqL K H l (zs.map V.str)) (few : zs.length ≤ 2000) (q : P zs) : ∃ (l' : Addr) (zs : List Str), V.ref l = .ref l' ∧ SqL K H l' (zs.map V.str) ∧ zs.length ≤ 2000 ∧ P zs := ⟨l, zs, rfl, h, few, q⟩
/-- list(xs) -/
def rListOf (K : PySem.W.Frag) : List V → Hp → VK → Prop := fun xs H Q => ∃ p ys, xs = [.ref p] ∧ (SqL K H p ys ∨ SqT K H p ys) ∧ ∀ l, H l = none → Q (.ref l) (upd H l (.lst ys))
theorem r_listL {p : Addr} {ys : List V} (h : SqL K H p ys) (q : ∀ l, H l = none → Q (.ref l) (upd H l (.lst ys))) : rListOf K [.ref p] H Q := ⟨p, ys, rfl, .inl h, q⟩
theorem r_listT {p : Addr} {ys : List V} (h : SqT K H p ys) (q : ∀ l, H l = none → Q (.ref l) (upd H l (.lst ys))) : rListOf K [.ref p] H Q := ⟨p, ys, rfl, .inr h, q⟩
/-- tuple(xs) -/
def rTupOf (K : PySem.W.Frag) : List V → Hp → VK → Prop := fun xs H Q => ∃ p ys, xs = [.ref p] ∧ ((SqL K H p ys ∧ ∀ l, H l = none → Q (.ref l) (upd H l (.tup ys))) ∨ (SqT K H p ys ∧ Q (.ref p) H))
theorem r_tupL {p : Addr} {ys : List V} (h : SqL K H p ys) (q : ∀ l, H l = none → Q (.ref l) (upd H l (.tup ys))) : rTupOf K [.ref p] H Q := ⟨p, ys, rfl, .inl ⟨h, q⟩⟩
end
end Vs

/-! ## set(xs) of a list of keys of any kind, its length -/
namespace Vs
open PySem PySem.Spec PyProof.Rows L2
section
variable {P : Program} {w : World} {κ : Type} [DecidableEq κ] [BEq κ] [LawfulBEq κ] {knd : KeyKind P w κ}
/-- all that is walked goes into the set at S -/
theorem fillSet {A : Around} {R : Result → Shared → Prop} {I : Addr} {fp wr : List Addr} {G : Array GenState → Array GenState → Prop} {n : Nat} {Pv : Nat → Value → Prop} {St : Nat → Shared → Prop}
    (W : WalksS P w A.in1 I fp wr G n Pv St) (S : Addr) (off : S ∉ fp) (ks : List κ) (item : ∀ i v, i < n → Pv i v → ∃ k, ks[i]? = some k ∧ knd.is k v = true ∧ v.scannable = true) (few : n + 1 < scanBound) :
    ∀ (left i : Nat) (s : Shared), n - i = left → i ≤ n → St i s → s.heap.SetOf knd S (fun k => decide (k ∈ ks.take i)) (dcnt ks i) →
      (∀ s', Moved (S :: wr) G s s' → s'.heap.SetOf knd S (fun k => decide (k ∈ ks.take n)) (dcnt ks n) → R (.ok (.ret .none)) s') →
      codeAny (model P w) A (.builtin "set.update.loop" ⟨[.ref S, .ref I], []⟩) R s
  | 0, i, s, e, le, st, hS, q => by
    obtain rfl : i = n := by omega
    refine codeAny_builtin F.entry_set_update_loop (by
      rw [Around.under_plainId F.plain_set_update_loop _]
      refine wpAny_bind (W.done s _ _ st fun s1 mv => ?_)
      have hS1 : s1.heap.SetOf knd S (fun k => decide (k ∈ ks.take i)) (dcnt ks i) := by
        obtain ⟨o, es, ep, t, ho, more⟩ := hS
        exact ⟨o, es, ep, t, mv.heap S _ (fun z => off (W.sub _ z)) ho, more⟩
      show wpAny _ A.in1 (ret Value.none) _ _ s1
      exact wpAny_pure (q s1 (mv.mono fun b hb => List.mem_cons_of_mem _ hb) hS1))
  | left + 1, i, s, e, le, st, hS, q => by
    have lt : i < n := by omega
    refine codeAny_builtin F.entry_set_update_loop (by
      rw [Around.under_plainId F.plain_set_update_loop _]
      refine wpAny_bind (W.item i s _ _ lt st fun v s1 pv st1 mv => ?_)
      obtain ⟨k, hk, kv, sc⟩ := item i v lt pv
      have hS1 : s1.heap.SetOf knd S (fun k => decide (k ∈ ks.take i)) (dcnt ks i) := by
        obtain ⟨o, es, ep, t, ho, more⟩ := hS
        exact ⟨o, es, ep, t, mv.heap S _ (fun z => off (W.sub _ z)) ho, more⟩
      show wpAny _ A.in1 (holding [v] (setAdd S v) >>= _) _ _ s1
      refine wpAny_bind (wpAny_holding ?_)
      unfold setAdd
      refine wpAny_holding (wpAny_bind (knd.pyHash kv ?_))
      have room : dcnt ks i + 1 < scanBound := by have := dcnt_le (ks := ks) i; omega
      refine wpAny_setAddHashed_of (knd := knd) (s := { s1 with toks := s1.toks + 1 }) kv sc hS1 room fun h2 sb hS2 => ?_
      have e2 : ks.take (i + 1) = ks.take i ++ [k] := by rw [List.take_add_one, hk]; rfl
      have hS3 : h2.SetOf knd S (fun k => decide (k ∈ ks.take (i + 1))) (dcnt ks (i + 1)) := SetOf_congr hS2 (fun j => by
          rw [e2]
          by_cases z : j = k
          · subst z; simp
          · simp [z]) (by
          by_cases z : k ∈ ks.take i
          · rw [dcnt_in hk z, if_pos (decide_eq_true z)]
          · rw [dcnt_new hk z, if_neg (by simpa using z)])
      refine wpAny_pure ⟨plainId_quiet F.plain_set_update_loop _, fillSet W S off ks item few left (i + 1) _ (by omega) lt (W.frame _ s1 _ _ st1 (Nat.le_succ _) fun b hb o z => ?_) hS3 fun s2 mv2 hS4 => q s2 ?_ hS4⟩
      · exact (sb.2 b fun y => off (y ▸ hb)).trans z
      · refine Moved.trans W.gtrans ((mv.mono fun b hb => List.mem_cons_of_mem _ hb).then_heap (Nat.le_succ _) fun b o nb z => ?_) mv2
        exact (sb.2 b fun y => nb (y ▸ List.mem_cons_self)).trans z)
/-- set(xs) -/
theorem setOfList {A : Around} {E : Value → Shared → Prop} {s : Shared} {l : Addr} {its : Array Value} (ks : List κ) {Q : Value → Shared → Prop} (hd : A.handled = none) (hl : s.heap.IsList l its)
    (item : ∀ (i : Nat) (v : Value), its[i]? = some v → ∃ k, ks[i]? = some k ∧ knd.is k v = true ∧ v.scannable = true) (few : its.size + 1 < scanBound)
    (q : ∀ (h2 : Heap) (tk : Nat), h2.SetOf knd s.heap.objs.size (fun k => decide (k ∈ ks.take its.size)) (dcnt ks its.size) → (∀ b o, b < s.heap.objs.size → s.heap.get? b = some o → h2.get? b = some o) → Q (.ref s.heap.objs.size) { s with heap := h2, toks := tk }) :
    wpAny (model P w) A (call (.type "set") [.ref l]) Q E s := by
  obtain ⟨c, tl, hmro⟩ := PySem.F.called_set.mro
  have k1 := PySem.F.called_set.made
  have k2 := PySem.F.called_set.sub
  have k3 := PySem.F.called_set.notType
  have k4 := PySem.F.called_set.canCreate
  have k5 := PySem.F.typeCall_set_1 (.ref l)
  refine wpAny_call (codeAny_of_tree (show wpAny _ _ (callAny (.type "set") _) _ _ _ from wpAny_pure ⟨Code.quiet_builtin _ (by decide +kernel), codeAny_builtin PySem.F.entry_type_call ?_⟩))
  rw [Around.under_plain (weight_type_call_type "set" [.ref l] []) rfl]
  repeat (any_goals (first | assumption | wp_step))
  let fresh : Bool → Obj := fun led => { cls := .type "set", dict := none, data := .set #[] 0 (.fresh 0 0 led) }
  refine codeAny_mono (code_set_new_1 (.ref l) (E := E) (Q₁ := fun ob s1 => ∃ led : Bool, ob = .ref s.heap.objs.size ∧ s1 = { s with heap := s.heap.push (fresh led) }) fun led => ⟨led, rfl, rfl⟩) fun r s1 hr => ?_
  match r, hr with
  | .error e, hr => exact hr
  | .ok .next, hr => exact hr.elim
  | .ok .brk, hr => exact hr.elim
  | .ok .cont, hr => exact hr.elim
  | .ok (.ret ob), hr =>
    obtain ⟨led, rfl, rfl⟩ := hr
    have at0 : (s.heap.push (fresh led)).get? s.heap.objs.size = some (fresh led) := Heap.get?_push_size _ rfl
    have ty : Shared.TypeIs { s with heap := s.heap.push (fresh led) } (.ref s.heap.objs.size) "set" := ⟨_, at0, rfl⟩
    have k6 := PySem.F.called_set.init.lookup
    have k7 := PySem.F.called_set.init.bind (.ref s.heap.objs.size)
    repeat (any_goals (first | assumption | wp_step))
    refine codeAny_mono (codeAny_call_builtin (R := wants (fun r s2 => r = .none ∧ ∃ h2 tk, s2 = { s with heap := h2, toks := tk } ∧ h2.SetOf knd s.heap.objs.size (fun k => decide (k ∈ ks.take its.size)) (dcnt ks its.size) ∧
        (∀ b o, b < s.heap.objs.size → s.heap.get? b = some o → h2.get? b = some o)) E) PySem.F.called_set.init.plain PySem.F.entry_set_init (check_set_init_1 ty ?_)) fun r2 s2 hr2 => ?_
    · obtain ⟨⟨oc, od, ot, os⟩, ho, hc, nl, hdt⟩ := hl
      simp only at hc hdt
      subst hc hdt
      have ho1 : (s.heap.push (fresh led)).get? l = some { cls := .type "list", dict := od, data := .seq its nl, slots := os } := Heap.get?_push_of_some _ ho
      have k8 := PySem.F.sub_list_set
      have k9 := PySem.F.sub_list_frozenset
      have k10 : (Value.type "list" == Value.type "dict") = false := by decide
      have hl1 : (s.heap.push (fresh led)).IsList l its := ⟨_, ho1, rfl, nl, rfl⟩
      unfold Builtin.«set.__init__» noKeywords Builtin.Frozenset.updateFrom
      generalize hPI : pyIter = PI
      wp_walk
      subst hPI
      refine wpAny_pyIter_list hl1 (wpAny_bind (wpAny_runValue ?_))
      have lt : l < s.heap.objs.size := Heap.lt_size ho
      have hd3 : A.in1.in1.in1.handled = none := by simp [hd]
      have sz : (s.heap.push (fresh led)).objs.size = s.heap.objs.size + 1 := Heap.size_push ..
      have ne1 : l ≠ (s.heap.push (fresh led)).objs.size := by rw [sz]; exact Nat.ne_of_lt (Nat.lt_succ_of_lt lt)
      have off : s.heap.objs.size ∉ [(s.heap.push (fresh led)).objs.size, l] := by
        rw [sz]
        simp only [List.mem_cons, List.not_mem_nil, or_false, not_or]
        exact ⟨Nat.ne_of_lt (Nat.lt_succ_self _), Nat.ne_of_gt lt⟩
      refine fillSet ((Walks.list hd3 _ l ne1 its).toS) s.heap.objs.size off ks (fun i v _ pv => item i v pv) few (its.size - 0) 0 _ (by omega) (Nat.zero_le _) ⟨⟨_, Heap.get?_push_size _ rfl, rfl, rfl⟩, (hl1.push _)⟩ ?_ fun s3 mv hS => ?_
      · have at1 : ((s.heap.push (fresh led)).push { cls := .type "list_iterator", data := .fields #[.ref l, .int 0 0] }).get? s.heap.objs.size = some (fresh led) := Heap.get?_push_of_some _ at0
        exact SetOf_congr ((setObjOf_fresh (knd := knd) led).setOf at1 (by unfold scanBound; omega)) (fun _ => by simp) rfl
      · obtain ⟨h3, g3, d3, tk3, os3⟩ := s3
        have e1 : g3 = s.gens := mv.gens
        have e2 : d3 = s.drawn := mv.drawn
        have e3 : os3 = s.os := mv.os
        subst e1 e2 e3
        show wpAny _ _ _ _ _ _
        refine wpAny_pure (show wpAny _ _ (ret Value.none) _ _ _ from wpAny_pure ⟨rfl, h3, tk3, rfl, hS, fun b o hb z => ?_⟩)
        refine mv.heap b o ?_ (Heap.get?_push_of_some _ (Heap.get?_push_of_some _ z))
        simp only [List.mem_cons, List.not_mem_nil, or_false, not_or]
        exact ⟨Nat.ne_of_lt hb, by rw [sz]; exact Nat.ne_of_lt (Nat.lt_succ_of_lt hb)⟩
    · match r2, hr2 with
      | .error e, hr2 => exact hr2
      | .ok .next, hr2 => exact hr2.elim
      | .ok .brk, hr2 => exact hr2.elim
      | .ok .cont, hr2 => exact hr2.elim
      | .ok (.ret r), hr2 =>
        obtain ⟨rfl, h2, tk, rfl, hS, kp⟩ := hr2
        repeat (any_goals (first | assumption | wp_step))
        exact q _ _ hS kp
end
theorem strs_item : ∀ {zs : List Str} {us : List Value}, Vals (zs.map V.str) us → ∀ (i : Nat) (v : Value), us[i]? = some v → ∃ z t, zs[i]? = some z ∧ v = .str z t
  | [], _, .nil, i, v, e => by simp at e
  | z :: zs, _, .cons r t, 0, v, e => by
    obtain ⟨k, rfl⟩ := r
    simp at e
    exact ⟨z, k, by simp, e.symm⟩
  | z :: zs, _, .cons r t, i + 1, v, e => by
    simp only [List.getElem?_cons_succ] at e ⊢
    exact strs_item t i v e
theorem pe_lenSetG {X : Cx} {a : Expr} {ta : TE} {p p2 q pos : Pos} (hc : X.calm = true) (hg : Gl X "len") (hm : X.mg "len" = none) (hg2 : Gl X "set") (hm2 : X.mg "set" = none) (ha : PE X a ta)
    (na : starEach [a] X.env = (false, eval a X.env) :: starEach [] X.env := by rfl) : PE X (.Call (.Name "len" p) [.Call (.Name "set" p2) [a] [] q] [] pos) (tLenSetG X.K ta) := by
  refine ⟨fun pins s σ H Q I h => Call_ (ld_blt I hg hm boot_len (callWith_builtin1 (args_cons (Call_ (ld_blt I hg2 hm2 boot_set (callWith_type1 (args_cons (thn (ha.run pins s σ H _ I h) fun v s1 hv => args_nil ?_) na) na rfl))) rfl) rfl rfl))⟩
  obtain ⟨x, H1, I1, r1, l, zs, rfl, hq, few, q1⟩ := hv
  cases r1
  obtain ⟨its, rv, pl, _⟩ := I1.list hq
  have len : its.toArray.size = zs.length := by rw [List.size_toArray, ← rv.length, List.length_map]
  refine setOfList (knd := PySem.strKind X.prog X.w) zs (I1.ok.hd hc) pl.isList (fun i v hv => ?_) (by rw [len]; unfold scanBound; omega) fun h2 tk hS kp => args_nil ?_
  · obtain ⟨z, t, hz, rfl⟩ := strs_item rv i v (by simpa using hv)
    exact ⟨z, hz, strKind_is _ _ _ _, rfl⟩
  · rw [len] at hS
    obtain ⟨o, es, ep, t, ho, hex, hdt, _, _, _, fit, hn⟩ := hS
    have J : Inv X pins σ H1 { s1 with heap := h2, toks := tk } := I1.kept fun b o e => kp b o (Heap.lt_size e) e
    exact call_len_set ho hex hdt fit (by rw [hn]; have := dcnt_le (ks := zs) zs.length; omega) ⟨.int (dcnt zs zs.length : Nat), H1, J.tok _, ⟨_, by rw [hn]⟩, q1⟩
end Vs

namespace Pm
def subT : List (String × List String × List String) := [("Happening", ["Happening"], ["kind", "place", "weight"]),
  ("Fit", ["Fit"], []),
  ("Any", ["Any", "Fit"], []),
  ("Named", ["Named", "Fit"], ["names"]),
  ("Kind", ["Kind", "Named", "Fit"], ["names"]),
  ("Place", ["Place", "Named", "Fit"], ["names"]),
  ("Least", ["Least", "Fit"], ["weight"]),
  ("Not", ["Not", "Fit"], ["fit"]),
  ("Several", ["Several", "Fit"], ["fits"]),
  ("Both", ["Both", "Several", "Fit"], ["fits"]),
  ("Either", ["Either", "Several", "Fit"], ["fits"]),
  ("Turns", ["Turns"], ["kinds", "places", "weights"])]
def excT : List (String × List String × List String) := [("BellError", ["BellError"], []),
  ("NoHappening", ["NoHappening", "BellError"], []),
  ("NoFit", ["NoFit", "BellError"], [])]
def tabL : List (String × Option String × String) := [("parting", none, "parting.<locals>.<lambda>")]
end Pm
/-! # what a program's text computes, in plain Lean: values, a store of what may change, the constructs -/
namespace Pm

abbrev Tx := List Nat
def tx (s : String) : Tx := s.toList.map Char.toNat
theorem tx_inj {a b : String} : tx a = tx b ↔ a = b := by
  constructor
  · intro h
    have h2 : a.toList = b.toList := by
      unfold tx at h
      exact List.map_inj_right (fun x y e => Char.toNat_inj.mp e) |>.mp h
    exact String.toList_inj.mp h2
  · intro h; rw [h]
inductive Dx where
  | non | bl (b : Bool) | int (i : Int) | str (s : Tx)
  | tup (xs : List Dx) | lst (xs : List Dx) | fro (xs : List Dx) | dct
  | obj (C : String) (fs : List (String × Dx))
  | cell (n : Nat) | cls (C : String) | ty (s : String) | unk
abbrev Fs := List (String × Dx)
inductive Cl where
  | lst (xs : List Dx) | obj (C : String) (fs : Fs)
  /-- a table of code objects (its number); a function made -/
  | tbl (k : Nat) | fn
abbrev Sto := List Cl
structure En where
  sl : List (Option Dx)
  me : Fs
  /-- what the suite holds -/
  ex : Option (String × Fs)
/-- what comes of an expression -/
inductive R (α : Type) where
  | ok (v : α) (s : Sto) | exc (C : String) (fs : Fs) (s : Sto) | stuck
/-- what comes of a statement -/
inductive S where
  | nx (e : En) (s : Sto) | rt (v : Dx) (s : Sto) | bk (e : En) (s : Sto) | ct (e : En) (s : Sto) | exc (C : String) (fs : Fs) (e : En) (s : Sto) | stuck
def R.bind {α β : Type} : R α → (α → Sto → R β) → R β
  | .ok v s, k => k v s
  | .exc C f s, _ => .exc C f s
  | .stuck, _ => .stuck
def R.s {α : Type} : R α → En → (α → Sto → S) → S
  | .ok v s, _, k => k v s
  | .exc C f s, e, _ => .exc C f e s
  | .stuck, _, _ => .stuck
/-- no exception may leave -/
def R.calm {α : Type} : R α → R α
  | .exc _ _ _ => .stuck
  | r => r
@[simp] theorem bind_ok {α β : Type} (v : α) (s : Sto) (k : α → Sto → R β) : (R.ok v s).bind k = k v s := rfl
@[simp] theorem bind_exc {α β : Type} (C : String) (f : Fs) (s : Sto) (k : α → Sto → R β) : (R.exc C f s).bind k = .exc C f s := rfl
@[simp] theorem bind_stuck {α β : Type} (k : α → Sto → R β) : (R.stuck).bind k = .stuck := rfl
@[simp] theorem s_ok {α : Type} (v : α) (s : Sto) (e : En) (k : α → Sto → S) : (R.ok v s).s e k = k v s := rfl
@[simp] theorem s_exc {α : Type} (C : String) (f : Fs) (s : Sto) (e : En) (k : α → Sto → S) : (R.exc C f s).s e k = .exc C f e s := rfl
@[simp] theorem s_stuck {α : Type} (e : En) (k : α → Sto → S) : (R.stuck).s e k = .stuck := rfl
@[simp] theorem calm_ok {α : Type} (v : α) (s : Sto) : (R.ok v s).calm = .ok v s := rfl
@[simp] theorem calm_exc {α : Type} (C : String) (f : Fs) (s : Sto) : (R.exc C f s : R α).calm = .stuck := rfl
@[simp] theorem calm_stuck {α : Type} : (R.stuck : R α).calm = .stuck := rfl
abbrev ME := En → Sto → R Dx
abbrev MA := En → Sto → R (List Dx)
abbrev MT := En → Sto → R Bool
abbrev MS := En → Sto → S
abbrev MF := List Dx → Sto → R Dx
abbrev MI := List Dx → Sto → R Fs
/-! ## expressions -/
def eVar (i : Nat) : ME := fun e s => match e.sl[i]? with
  | some (some d) => .ok d s
  | _ => .stuck
@[simp] theorem eVar_at (i : Nat) (e : En) (s : Sto) : eVar i e s = match e.sl[i]? with
  | some (some d) => .ok d s
  | _ => .stuck := rfl
def eC (d : Dx) : ME := fun _ s => .ok d s
@[simp] theorem eC_at (d : Dx) (e0 : En) (s : Sto) : eC d e0 s = .ok d s := rfl
abbrev O1 := Dx → Sto → R Dx
abbrev O2 := Dx → Dx → Sto → R Dx
def eUn (f : O1) (a : ME) : ME := fun e s => (a e s).bind fun x s1 => f x s1
@[simp] theorem eUn_at (f : O1) (a : ME) (e : En) (s : Sto) : eUn f a e s = (a e s).bind fun x s1 => f x s1 := rfl
def eOp (f : O2) (a b : ME) : ME := fun e s => (a e s).bind fun x s1 => (b e s1).bind fun y s2 => f x y s2
@[simp] theorem eOp_at (f : O2) (a b : ME) (e : En) (s : Sto) : eOp f a b e s = (a e s).bind fun x s1 => (b e s1).bind fun y s2 => f x y s2 := rfl
def aNil  : MA := fun _ s => .ok [] s
@[simp] theorem aNil_at  (e0 : En) (s : Sto) : aNil  e0 s = .ok [] s := rfl
def aCons (a : ME) (as : MA) : MA := fun e s => (a e s).bind fun x s1 => (as e s1).bind fun xs s2 => .ok (x :: xs) s2
@[simp] theorem aCons_at (a : ME) (as : MA) (e : En) (s : Sto) : aCons a as e s = (a e s).bind fun x s1 => (as e s1).bind fun xs s2 => .ok (x :: xs) s2 := rfl
def eCall (f : MF) (as : MA) : ME := fun e s => (as e s).bind fun ds s1 => f ds s1
@[simp] theorem eCall_at (f : MF) (as : MA) (e : En) (s : Sto) : eCall f as e s = (as e s).bind fun ds s1 => f ds s1 := rfl
/-- defaults stand behind the arguments -/
def eCallD (f : MF) (dv : List Dx) (as : MA) : ME := fun e s => (as e s).bind fun ds s1 => f (ds ++ dv) s1
@[simp] theorem eCallD_at (f : MF) (dv : List Dx) (as : MA) (e : En) (s : Sto) : eCallD f dv as e s = (as e s).bind fun ds s1 => f (ds ++ dv) s1 := rfl
def eAnd (a b : ME) : ME := fun e s => (a e s).bind fun x s1 => match x with
  | .bl true => b e s1
  | .bl false => .ok (.bl false) s1
  | _ => .stuck
@[simp] theorem eAnd_at (a b : ME) (e : En) (s : Sto) : eAnd a b e s = (a e s).bind fun x s1 => match x with
  | .bl true => b e s1
  | .bl false => .ok (.bl false) s1
  | _ => .stuck := rfl
def eOr (a b : ME) : ME := fun e s => (a e s).bind fun x s1 => match x with
  | .bl true => .ok (.bl true) s1
  | .bl false => b e s1
  | _ => .stuck
@[simp] theorem eOr_at (a b : ME) (e : En) (s : Sto) : eOr a b e s = (a e s).bind fun x s1 => match x with
  | .bl true => .ok (.bl true) s1
  | .bl false => b e s1
  | _ => .stuck := rfl
def eNot (a : ME) : ME := fun e s => (a e s).bind fun x s1 => match x with
  | .bl b => .ok (.bl !b) s1
  | _ => .stuck
@[simp] theorem eNot_at (a : ME) (e : En) (s : Sto) : eNot a e s = (a e s).bind fun x s1 => match x with
  | .bl b => .ok (.bl !b) s1
  | _ => .stuck := rfl
def eIf (t : MT) (a b : ME) : ME := fun e s => (t e s).bind fun c s1 => if c = true then a e s1 else b e s1
def R.eif : R Bool → En → ME → ME → R Dx
  | .ok c s, e, a, b => if c = true then a e s else b e s
  | .exc C f s, _, _, _ => .exc C f s
  | .stuck, _, _, _ => .stuck
@[simp] theorem eif_ok (c : Bool) (s : Sto) (e : En) (a b : ME) : R.eif (.ok c s) e a b = if c = true then a e s else b e s := rfl
@[simp] theorem eif_exc (C : String) (f : Fs) (s : Sto) (e : En) (a b : ME) : R.eif (.exc C f s) e a b = .exc C f s := rfl
@[simp] theorem eIf_at (t : MT) (a b : ME) (e : En) (s : Sto) : eIf t a b e s = R.eif (t e s) e a b := by unfold eIf; cases t e s <;> rfl
def eChain (f g : O2) (a b c : ME) : ME := fun e s => (a e s).bind fun x s1 => (b e s1).bind fun y s2 => (f x y s2).bind fun z s3 => match z with
  | .bl true => (c e s3).bind fun w s4 => g y w s4
  | .bl false => .ok (.bl false) s3
  | _ => .stuck
@[simp] theorem eChain_at (f g : O2) (a b c : ME) (e : En) (s : Sto) : eChain f g a b c e s = (a e s).bind fun x s1 => (b e s1).bind fun y s2 => (f x y s2).bind fun z s3 => match z with
  | .bl true => (c e s3).bind fun w s4 => g y w s4
  | .bl false => .ok (.bl false) s3
  | _ => .stuck := rfl
/-- tests -/
def uV (a : ME) : MT := fun e s => (a e s).bind fun x s1 => match x with
  | .bl b => .ok b s1
  | _ => .stuck
@[simp] theorem uV_at (a : ME) (e : En) (s : Sto) : uV a e s = (a e s).bind fun x s1 => match x with
  | .bl b => .ok b s1
  | _ => .stuck := rfl
def uAnd (a b : MT) : MT := fun e s => (a e s).bind fun c s1 => if c = true then b e s1 else .ok false s1
@[simp] theorem uAnd_at (a b : MT) (e : En) (s : Sto) : uAnd a b e s = (a e s).bind fun c s1 => if c = true then b e s1 else .ok false s1 := rfl
def uOr (a b : MT) : MT := fun e s => (a e s).bind fun c s1 => if c = true then .ok true s1 else b e s1
@[simp] theorem uOr_at (a b : MT) (e : En) (s : Sto) : uOr a b e s = (a e s).bind fun c s1 => if c = true then .ok true s1 else b e s1 := rfl
def uNot (a : MT) : MT := fun e s => (a e s).bind fun c s1 => .ok (!c) s1
@[simp] theorem uNot_at (a : MT) (e : En) (s : Sto) : uNot a e s = (a e s).bind fun c s1 => .ok (!c) s1 := rfl
def uYes  : MT := fun _ s => .ok true s
@[simp] theorem uYes_at  (e0 : En) (s : Sto) : uYes  e0 s = .ok true s := rfl
/-! ## what stands in the store -/
def asL (s : Sto) : Dx → Option (List Dx)
  | .lst xs => some xs
  | .fro xs => some xs
  | .cell n => match s[n]? with
    | some (.lst xs) => some xs
    | _ => none
  | _ => none
/-- a list that was laid (no script) -/
def asM (s : Sto) : Dx → Option (List Dx)
  | .lst xs => some xs
  | .cell n => match s[n]? with
    | some (.lst xs) => some xs
    | _ => none
  | _ => none
def asQ (s : Sto) : Dx → Option (List Dx)
  | .tup xs => some xs
  | d => asL s d
def asO (s : Sto) : Dx → Option (String × Fs)
  | .obj C fs => some (C, fs)
  | .cell n => match s[n]? with
    | some (.obj C fs) => some (C, fs)
    | _ => none
  | _ => none
abbrev most : Nat := 1000000
def truD (s : Sto) : Dx → Option Bool
  | .bl b => some b
  | .non => some false
  | .int i => some (i != 0)
  | .str z => if z.length ≤ most then some (!z.isEmpty) else none
  | d => (asQ s d).map fun xs => !xs.isEmpty
/-- a test of a value that is no bool -/
def uTru (a : ME) : MT := fun e s => (a e s).bind fun x s1 => match truD s1 x with
  | some b => .ok b s1
  | none => .stuck
@[simp] theorem uTru_at (a : ME) (e : En) (s : Sto) : uTru a e s = (a e s).bind fun x s1 => match truD s1 x with
  | some b => .ok b s1
  | none => .stuck := rfl
/-- a new list, object: as it is for good (a tree), or a cell of the store -/
@[simp] def newL (c : Bool) (xs : List Dx) (s : Sto) : R Dx := if c then .ok (.cell s.length) (s ++ [.lst xs]) else .ok (.lst xs) s
def eLst (c : Bool) (as : MA) : ME := fun e s => (as e s).bind fun xs s1 => if xs.length ≤ most then newL c xs s1 else .stuck
@[simp] theorem eLst_at (c : Bool) (as : MA) (e : En) (s : Sto) : eLst c as e s = (as e s).bind fun xs s1 => if xs.length ≤ most then newL c xs s1 else .stuck := rfl
def eTup (as : MA) : ME := fun e s => (as e s).bind fun xs s1 => if xs.length ≤ most then .ok (.tup xs) s1 else .stuck
@[simp] theorem eTup_at (as : MA) (e : En) (s : Sto) : eTup as e s = (as e s).bind fun xs s1 => if xs.length ≤ most then .ok (.tup xs) s1 else .stuck := rfl
/-! ## operators -/
def addD  : O2 := fun x y s => match x, y with
  | .int i, .int j => .ok (.int (i + j)) s
  | .str a, .str b => if a.length + b.length ≤ most then .ok (.str (a ++ b)) s else .stuck
  | .tup (x :: xs), .tup (y :: ys) => if (x :: xs).length + (y :: ys).length ≤ most then .ok (.tup ((x :: xs) ++ (y :: ys))) s else .stuck
  | .tup (x :: xs), .tup [] => if xs.length + 1 ≤ most then .ok (.tup (x :: xs)) s else .stuck
  | x, y => match asM s x, asM s y with
    | some xs, some ys => if xs.length + ys.length ≤ most then .ok (.lst (xs ++ ys)) s else .stuck
    | _, _ => .stuck
theorem addD_at  (x : Dx) (y : Dx) (s : Sto) : addD  x y s = match x, y with
  | .int i, .int j => .ok (.int (i + j)) s
  | .str a, .str b => if a.length + b.length ≤ most then .ok (.str (a ++ b)) s else .stuck
  | .tup (x :: xs), .tup (y :: ys) => if (x :: xs).length + (y :: ys).length ≤ most then .ok (.tup ((x :: xs) ++ (y :: ys))) s else .stuck
  | .tup (x :: xs), .tup [] => if xs.length + 1 ≤ most then .ok (.tup (x :: xs)) s else .stuck
  | x, y => match asM s x, asM s y with
    | some xs, some ys => if xs.length + ys.length ≤ most then .ok (.lst (xs ++ ys)) s else .stuck
    | _, _ => .stuck := rfl
/-- lists that will change -/
def addC : O2 := fun x y s => match asM s x, asM s y with
  | some xs, some ys => if xs.length + ys.length ≤ most then .ok (.cell s.length) (s ++ [.lst (xs ++ ys)]) else .stuck
  | _, _ => .stuck
@[simp] theorem addC_at (x y : Dx) (s : Sto) : addC x y s = match asM s x, asM s y with
  | some xs, some ys => if xs.length + ys.length ≤ most then .ok (.cell s.length) (s ++ [.lst (xs ++ ys)]) else .stuck
  | _, _ => .stuck := rfl
def mulC : O2 := fun x y s => match x, y with
  | .lst xs, .int j => if 0 ≤ j ∧ j ≤ 10000 ∧ xs.length ≤ 100 then .ok (.cell s.length) (s ++ [.lst (List.replicate j.toNat xs).flatten]) else .stuck
  | _, _ => .stuck
@[simp] theorem mulC_li (xs : List Dx) (j : Int) (s : Sto) : mulC (.lst xs) (.int j) s = if 0 ≤ j ∧ j ≤ 10000 ∧ xs.length ≤ 100 then .ok (.cell s.length) (s ++ [.lst (List.replicate j.toNat xs).flatten]) else .stuck := rfl
def addI  : O2 := fun x y s => match x, y with
  | .int i, .int j => .ok (.int (i + j)) s
  | _, _ => .stuck
theorem addI_at  (x : Dx) (y : Dx) (s : Sto) : addI  x y s = match x, y with
  | .int i, .int j => .ok (.int (i + j)) s
  | _, _ => .stuck := rfl
def subD  : O2 := fun x y s => match x, y with
  | .int i, .int j => .ok (.int (i - j)) s
  | _, _ => .stuck
theorem subD_at  (x : Dx) (y : Dx) (s : Sto) : subD  x y s = match x, y with
  | .int i, .int j => .ok (.int (i - j)) s
  | _, _ => .stuck := rfl
abbrev B64 (i : Int) : Prop := -(2 ^ 64) < i ∧ i < 2 ^ 64
def mulD  : O2 := fun x y s => match x, y with
  | .int i, .int j => if B64 i ∨ B64 j then .ok (.int (i * j)) s else .stuck
  | .str a, .int j => if 0 ≤ j ∧ j ≤ 100 ∧ a.length ≤ 100 then .ok (.str (List.replicate j.toNat a).flatten) s else .stuck
  | .lst xs, .int j => if 0 ≤ j ∧ j ≤ 10000 ∧ xs.length ≤ 100 then .ok (.lst (List.replicate j.toNat xs).flatten) s else .stuck
  | _, _ => .stuck
theorem mulD_at  (x : Dx) (y : Dx) (s : Sto) : mulD  x y s = match x, y with
  | .int i, .int j => if B64 i ∨ B64 j then .ok (.int (i * j)) s else .stuck
  | .str a, .int j => if 0 ≤ j ∧ j ≤ 100 ∧ a.length ≤ 100 then .ok (.str (List.replicate j.toNat a).flatten) s else .stuck
  | .lst xs, .int j => if 0 ≤ j ∧ j ≤ 10000 ∧ xs.length ≤ 100 then .ok (.lst (List.replicate j.toNat xs).flatten) s else .stuck
  | _, _ => .stuck := rfl
def modD  : O2 := fun x y s => match x, y with
  | .int i, .int j => if 0 < j then .ok (.int (i % j)) s else .stuck
  | _, _ => .stuck
theorem modD_at  (x : Dx) (y : Dx) (s : Sto) : modD  x y s = match x, y with
  | .int i, .int j => if 0 < j then .ok (.int (i % j)) s else .stuck
  | _, _ => .stuck := rfl
def divD  : O2 := fun x y s => match x, y with
  | .int i, .int j => if 0 < j ∧ j < 2 ^ 64 then .ok (.int (i / j)) s else .stuck
  | _, _ => .stuck
theorem divD_at  (x : Dx) (y : Dx) (s : Sto) : divD  x y s = match x, y with
  | .int i, .int j => if 0 < j ∧ j < 2 ^ 64 then .ok (.int (i / j)) s else .stuck
  | _, _ => .stuck := rfl
def negD  : O1 := fun x s => match x with
  | .int i => .ok (.int (-i)) s
  | _ => .stuck
theorem negD_at  (x : Dx) (s : Sto) : negD  x s = match x with
  | .int i => .ok (.int (-i)) s
  | _ => .stuck := rfl
def cmpD (p : Int → Int → Bool) : O2 := fun x y s => match x, y with
  | .int i, .int j => .ok (.bl (p i j)) s
  | _, _ => .stuck
theorem cmpD_at (p : Int → Int → Bool) (x : Dx) (y : Dx) (s : Sto) : cmpD p x y s = match x, y with
  | .int i, .int j => .ok (.bl (p i j)) s
  | _, _ => .stuck := rfl
abbrev ltD : O2 := cmpD fun i j => decide (i < j)
abbrev leD : O2 := cmpD fun i j => decide (i ≤ j)
abbrev gtD : O2 := cmpD fun i j => decide (j < i)
abbrev geD : O2 := cmpD fun i j => decide (j ≤ i)
/-! == of data -/
mutual
def eqv : Dx → Dx → Bool
  | .non, .non => true
  | .bl a, .bl b => a == b
  | .bl a, .int j => (if a then 1 else 0) == j
  | .int i, .bl b => i == (if b then 1 else 0)
  | .int i, .int j => decide (i = j)
  | .str x, .str y => decide (x = y)
  | .lst xs, .lst ys => eqvL xs ys
  | .lst xs, .fro ys => eqvL xs ys
  | .fro xs, .lst ys => eqvL xs ys
  | .fro xs, .fro ys => eqvL xs ys
  | .tup xs, .tup ys => eqvL xs ys
  | _, _ => false
def eqvL : List Dx → List Dx → Bool
  | [], [] => true
  | x :: xs, y :: ys => eqv x y && eqvL xs ys
  | _, _ => false
end
/-- data of so many lists in one another -/
def shp : Nat → Dx → Bool
  | _, .non => true
  | _, .bl _ => true
  | _, .int _ => true
  | _, .str _ => true
  | n + 1, .tup xs => xs.all (shp n)
  | n + 1, .lst xs => xs.all (shp n)
  | n + 1, .fro xs => xs.all (shp n)
  | _, _ => false
def res (s : Sto) : Dx → Dx
  | .cell n => match s[n]? with
    | some (.lst xs) => .lst xs
    | _ => .cell n
  | d => d
def eqD  : O2 := fun x y s => if (shp 40 (res s x) && shp 40 (res s y)) = true then .ok (.bl (eqv (res s x) (res s y))) s else .stuck
theorem eqD_at  (x : Dx) (y : Dx) (s : Sto) : eqD  x y s = if (shp 40 (res s x) && shp 40 (res s y)) = true then .ok (.bl (eqv (res s x) (res s y))) s else .stuck := rfl
def neD  : O2 := fun x y s => if (shp 40 (res s x) && shp 40 (res s y)) = true then .ok (.bl (!eqv (res s x) (res s y))) s else .stuck
theorem neD_at  (x : Dx) (y : Dx) (s : Sto) : neD  x y s = if (shp 40 (res s x) && shp 40 (res s y)) = true then .ok (.bl (!eqv (res s x) (res s y))) s else .stuck := rfl
/-- x == [], x != []: of lists of whatever -/
def eqE : O2 := fun x y s => match asL s x, asL s y with
  | some xs, some [] => .ok (.bl xs.isEmpty) s
  | _, _ => eqD x y s
def neE : O2 := fun x y s => match asL s x, asL s y with
  | some xs, some [] => .ok (.bl !xs.isEmpty) s
  | _, _ => neD x y s
@[simp] theorem eqE_nil (x : Dx) (s : Sto) : eqE x (.lst []) s = match asL s x with
  | some xs => .ok (.bl xs.isEmpty) s
  | none => eqD x (.lst []) s := by
  unfold eqE
  cases asL s x <;> rfl
@[simp] theorem neE_nil (x : Dx) (s : Sto) : neE x (.lst []) s = match asL s x with
  | some xs => .ok (.bl !xs.isEmpty) s
  | none => neD x (.lst []) s := by
  unfold neE
  cases asL s x <;> rfl
def isND  : O2 := fun x y s => match x, y with
  | .unk, _ => .stuck
  | .non, .non => .ok (.bl true) s
  | _, .non => .ok (.bl false) s
  | _, _ => .stuck
theorem isND_at  (x : Dx) (y : Dx) (s : Sto) : isND  x y s = match x, y with
  | .unk, _ => .stuck
  | .non, .non => .ok (.bl true) s
  | _, .non => .ok (.bl false) s
  | _, _ => .stuck := rfl
def notND  : O2 := fun x y s => match x, y with
  | .unk, _ => .stuck
  | .non, .non => .ok (.bl false) s
  | _, .non => .ok (.bl true) s
  | _, _ => .stuck
theorem notND_at  (x : Dx) (y : Dx) (s : Sto) : notND  x y s = match x, y with
  | .unk, _ => .stuck
  | .non, .non => .ok (.bl false) s
  | _, .non => .ok (.bl true) s
  | _, _ => .stuck := rfl
def isBD  : O2 := fun x y s => match x, y with
  | .bl a, .bl b => .ok (.bl (a == b)) s
  | _, _ => .stuck
theorem isBD_at  (x : Dx) (y : Dx) (s : Sto) : isBD  x y s = match x, y with
  | .bl a, .bl b => .ok (.bl (a == b)) s
  | _, _ => .stuck := rfl
def notBD  : O2 := fun x y s => match x, y with
  | .bl a, .bl b => .ok (.bl (!(a == b))) s
  | _, _ => .stuck
@[simp] theorem notBD_bb (a b : Bool) (s : Sto) : notBD (.bl a) (.bl b) s = .ok (.bl (!(a == b))) s := rfl
def flat : Dx → Bool
  | .non => true
  | .bl _ => true
  | .int _ => true
  | .str _ => true
  | _ => false
def inD (neg : Bool) : O2 := fun x y s => match y with
  | .str z => match x with
    | .str [c] => .ok (.bl (neg != decide (c ∈ z))) s
    | _ => .stuck
  | y => match asQ s y with
    | some ys => if (flat x && ys.all flat) = true then .ok (.bl (neg != ys.any fun y => eqv y x)) s else .stuck
    | none => .stuck
theorem inD_at (neg : Bool) (x : Dx) (y : Dx) (s : Sto) : inD neg x y s = match y with
  | .str z => match x with
    | .str [c] => .ok (.bl (neg != decide (c ∈ z))) s
    | _ => .stuck
  | y => match asQ s y with
    | some ys => if (flat x && ys.all flat) = true then .ok (.bl (neg != ys.any fun y => eqv y x)) s else .stuck
    | none => .stuck := rfl
/-- a place of a list, from behind too -/
def pyIx {α : Type} (xs : List α) (i : Int) : Option α := if 0 ≤ i then xs[i.toNat]? else if -(xs.length : Int) ≤ i then xs[(i + xs.length).toNat]? else none
def sIx (n d : Nat) : Option Int → Nat
  | none => d
  | some v => if v < 0 then (v + (n : Int)).toNat else min v.toNat n
def cut {α : Type} (xs : List α) (lo hi : Option Int) : List α := (xs.drop (sIx xs.length 0 lo)).take (sIx xs.length xs.length hi - sIx xs.length 0 lo)
def ixD  : O2 := fun x y s => match y with
  | .int i => match x with
    | .str z => match pyIx z i with
      | some c => if z.length ≤ most then .ok (.str [c]) s else .stuck
      | none => .stuck
    | x => match asQ s x with
      | some xs => match pyIx xs i with
        | some d => .ok d s
        | none => .stuck
      | none => .stuck
  | _ => .stuck
theorem ixD_at  (x : Dx) (y : Dx) (s : Sto) : ixD  x y s = match y with
  | .int i => match x with
    | .str z => match pyIx z i with
      | some c => if z.length ≤ most then .ok (.str [c]) s else .stuck
      | none => .stuck
    | x => match asQ s x with
      | some xs => match pyIx xs i with
        | some d => .ok d s
        | none => .stuck
      | none => .stuck
  | _ => .stuck := rfl
/-- a slice's end -/
abbrev MO := En → Sto → R (Option Int)
def oNone  : MO := fun _ s => .ok none s
@[simp] theorem oNone_at  (e0 : En) (s : Sto) : oNone  e0 s = .ok none s := rfl
def oSome (a : ME) : MO := fun e s => (a e s).bind fun x s1 => match x with
  | .int i => .ok (some i) s1
  | _ => .stuck
@[simp] theorem oSome_at (a : ME) (e : En) (s : Sto) : oSome a e s = (a e s).bind fun x s1 => match x with
  | .int i => .ok (some i) s1
  | _ => .stuck := rfl
def slD  : Dx → Option Int → Option Int → Sto → R Dx := fun x lo hi s => match x with
  | .str z => if z.length ≤ most then .ok (.str (cut z lo hi)) s else .stuck
  | .tup xs => if sIx xs.length 0 lo = 0 ∧ sIx xs.length xs.length hi = xs.length then .stuck else .ok (.tup (cut xs lo hi)) s
  | x => match asL s x with
    | some xs => .ok (.lst (cut xs lo hi)) s
    | none => .stuck
theorem slD_at  (x : Dx) (lo : Option Int) (hi : Option Int) (s : Sto) : slD  x lo hi s = match x with
  | .str z => if z.length ≤ most then .ok (.str (cut z lo hi)) s else .stuck
  | .tup xs => if sIx xs.length 0 lo = 0 ∧ sIx xs.length xs.length hi = xs.length then .stuck else .ok (.tup (cut xs lo hi)) s
  | x => match asL s x with
    | some xs => .ok (.lst (cut xs lo hi)) s
    | none => .stuck := rfl
def slC : Dx → Option Int → Option Int → Sto → R Dx := fun x lo hi s => match asL s x with
  | some xs => .ok (.cell s.length) (s ++ [.lst (cut xs lo hi)])
  | none => .stuck
@[simp] theorem slC_at (x : Dx) (lo hi : Option Int) (s : Sto) : slC x lo hi s = match asL s x with
  | some xs => .ok (.cell s.length) (s ++ [.lst (cut xs lo hi)])
  | none => .stuck := rfl
def eSlC (a : ME) (lo hi : MO) : ME := fun e s => (a e s).bind fun x s1 => (lo e s1).bind fun l s2 => (hi e s2).bind fun h s3 => slC x l h s3
@[simp] theorem eSlC_at (a : ME) (lo hi : MO) (e : En) (s : Sto) : eSlC a lo hi e s = (a e s).bind fun x s1 => (lo e s1).bind fun l s2 => (hi e s2).bind fun h s3 => slC x l h s3 := rfl
/-- xs[::-1] -/
def revD : O1 := fun x s => match asL s x with
  | some xs => .ok (.lst xs.reverse) s
  | none => .stuck
@[simp] theorem revD_at (x : Dx) (s : Sto) : revD x s = match asL s x with
  | some xs => .ok (.lst xs.reverse) s
  | none => .stuck := rfl
def eSl (a : ME) (lo hi : MO) : ME := fun e s => (a e s).bind fun x s1 => (lo e s1).bind fun l s2 => (hi e s2).bind fun h s3 => slD x l h s3
@[simp] theorem eSl_at (a : ME) (lo hi : MO) (e : En) (s : Sto) : eSl a lo hi e s = (a e s).bind fun x s1 => (lo e s1).bind fun l s2 => (hi e s2).bind fun h s3 => slD x l h s3 := rfl
/-! ## built-ins -/
def lenD  : MF := fun ds s => match ds with
  | [.str z] => if z.length ≤ most then .ok (.int z.length) s else .stuck
  | [d] => match asQ s d with
    | some xs => .ok (.int xs.length) s
    | none => .stuck
  | _ => .stuck
theorem lenD_at  (ds : List Dx) (s : Sto) : lenD  ds s = match ds with
  | [.str z] => if z.length ≤ most then .ok (.int z.length) s else .stuck
  | [d] => match asQ s d with
    | some xs => .ok (.int xs.length) s
    | none => .stuck
  | _ => .stuck := rfl
def min2D  : MF := fun ds s => match ds with
  | [.int i, .int j] => .ok (.int (if j < i then j else i)) s
  | _ => .stuck
theorem min2D_at  (ds : List Dx) (s : Sto) : min2D  ds s = match ds with
  | [.int i, .int j] => .ok (.int (if j < i then j else i)) s
  | _ => .stuck := rfl
def max2D  : MF := fun ds s => match ds with
  | [.int i, .int j] => .ok (.int (if i < j then j else i)) s
  | _ => .stuck
theorem max2D_at  (ds : List Dx) (s : Sto) : max2D  ds s = match ds with
  | [.int i, .int j] => .ok (.int (if i < j then j else i)) s
  | _ => .stuck := rfl
def divmodD  : MF := fun ds s => match ds with
  | [.int i, .int j] => if 0 < j ∧ j < 2 ^ 30 then .ok (.tup [.int (i / j), .int (i % j)]) s else .stuck
  | _ => .stuck
theorem divmodD_at  (ds : List Dx) (s : Sto) : divmodD  ds s = match ds with
  | [.int i, .int j] => if 0 < j ∧ j < 2 ^ 30 then .ok (.tup [.int (i / j), .int (i % j)]) s else .stuck
  | _ => .stuck := rfl
def toIntD  : MF := fun ds s => match ds with
  | [.int i] => .ok (.int i) s
  | [.bl b] => .ok (.int (if b then 1 else 0)) s
  | _ => .stuck
theorem toIntD_at  (ds : List Dx) (s : Sto) : toIntD  ds s = match ds with
  | [.int i] => .ok (.int i) s
  | [.bl b] => .ok (.int (if b then 1 else 0)) s
  | _ => .stuck := rfl
/-- the figures of a number -/
def txI (i : Int) : Tx := tx (toString i)
def strD  : MF := fun ds s => match ds with
  | [.int i] => if -(10 ^ 100) ≤ i ∧ i ≤ 10 ^ 100 then .ok (.str (txI i)) s else .stuck
  | _ => .stuck
theorem strD_at  (ds : List Dx) (s : Sto) : strD  ds s = match ds with
  | [.int i] => if -(10 ^ 100) ≤ i ∧ i ≤ 10 ^ 100 then .ok (.str (txI i)) s else .stuck
  | _ => .stuck := rfl
@[simp] def dBools : List Dx → Option (List Bool)
  | [] => some []
  | .bl b :: xs => (dBools xs).map fun l => b :: l
  | _ => none
@[simp] def dInts : List Dx → Option (List Int)
  | [] => some []
  | .int b :: xs => (dInts xs).map fun l => b :: l
  | _ => none
@[simp] def dStrs : List Dx → Option (List Tx)
  | [] => some []
  | .str b :: xs => (dStrs xs).map fun l => b :: l
  | _ => none
def allD  : MF := fun ds s => match ds with
  | [d] => match (asL s d).bind dBools with
    | some l => .ok (.bl (l.all id)) s
    | none => .stuck
  | _ => .stuck
theorem allD_at  (ds : List Dx) (s : Sto) : allD  ds s = match ds with
  | [d] => match (asL s d).bind dBools with
    | some l => .ok (.bl (l.all id)) s
    | none => .stuck
  | _ => .stuck := rfl
def anyD  : MF := fun ds s => match ds with
  | [d] => match (asL s d).bind dBools with
    | some l => .ok (.bl (l.any id)) s
    | none => .stuck
  | _ => .stuck
theorem anyD_at  (ds : List Dx) (s : Sto) : anyD  ds s = match ds with
  | [d] => match (asL s d).bind dBools with
    | some l => .ok (.bl (l.any id)) s
    | none => .stuck
  | _ => .stuck := rfl
def sumD  : MF := fun ds s => match ds with
  | [d] => match (asL s d).bind dInts with
    | some l => .ok (.int l.sum) s
    | none => .stuck
  | _ => .stuck
theorem sumD_at  (ds : List Dx) (s : Sto) : sumD  ds s = match ds with
  | [d] => match (asL s d).bind dInts with
    | some l => .ok (.int l.sum) s
    | none => .stuck
  | _ => .stuck := rfl
def leastOf (i : Int) : List Int → Int
  | [] => i
  | j :: l => leastOf (if j < i then j else i) l
def minD  : MF := fun ds s => match ds with
  | [d] => match (asL s d).bind dInts with
    | some (i :: l) => .ok (.int (leastOf i l)) s
    | _ => .stuck
  | _ => .stuck
theorem minD_at  (ds : List Dx) (s : Sto) : minD  ds s = match ds with
  | [d] => match (asL s d).bind dInts with
    | some (i :: l) => .ok (.int (leastOf i l)) s
    | _ => .stuck
  | _ => .stuck := rfl
def listD (c : Bool) : MF := fun ds s => match ds with
  | [d] => match asQ s d with
    | some xs => newL c xs s
    | none => .stuck
  | _ => .stuck
theorem listD_at (c : Bool) (ds : List Dx) (s : Sto) : listD c ds s = match ds with
  | [d] => match asQ s d with
    | some xs => newL c xs s
    | none => .stuck
  | _ => .stuck := rfl
def tupD  : MF := fun ds s => match ds with
  | [.tup xs] => .ok (.tup xs) s
  | [d] => match asL s d with
    | some xs => .ok (.tup xs) s
    | none => .stuck
  | _ => .stuck
theorem tupD_at  (ds : List Dx) (s : Sto) : tupD  ds s = match ds with
  | [.tup xs] => .ok (.tup xs) s
  | [d] => match asL s d with
    | some xs => .ok (.tup xs) s
    | none => .stuck
  | _ => .stuck := rfl
/-- the number of unlike texts of a list -/
def cntU (ks : List Tx) : Nat → Nat
  | 0 => 0
  | i + 1 => match ks[i]? with
    | some k => if k ∈ ks.take i then cntU ks i else cntU ks i + 1
    | none => cntU ks i
def unlike (ks : List Tx) : Nat := cntU ks ks.length
theorem cnt_le {ks : List Tx} : ∀ i, cntU ks i ≤ i
  | 0 => Nat.le_refl _
  | i + 1 => by
    have := cnt_le (ks := ks) i
    unfold cntU
    split
    · split <;> omega
    · omega
theorem cnt_eq {ks : List Tx} : ∀ i, i ≤ ks.length → (cntU ks i = i ↔ (ks.take i).Nodup)
  | 0, _ => by simp [cntU]
  | i + 1, hi => by
    have hk : ks[i]? = some ks[i] := List.getElem?_eq_getElem hi
    have ih := cnt_eq (ks := ks) i (Nat.le_of_lt hi)
    have le := cnt_le (ks := ks) i
    have e : ks.take (i + 1) = ks.take i ++ [ks[i]] := by rw [List.take_add_one, hk]; rfl
    unfold cntU
    rw [hk, e]
    dsimp only
    rw [List.nodup_append]
    by_cases hm : ks[i] ∈ ks.take i
    · rw [if_pos hm]
      exact ⟨fun z => by omega, fun z => absurd rfl (z.2.2 _ hm _ (List.mem_singleton.mpr rfl))⟩
    · rw [if_neg hm]
      constructor
      · intro z
        refine ⟨ih.mp (by omega), by simp, fun a ha b hb => ?_⟩
        rw [List.mem_singleton] at hb
        subst hb
        exact fun q => hm (q ▸ ha)
      · intro z
        have := ih.mpr z.1
        omega
theorem unlike_eq {ks : List Tx} : unlike ks = ks.length ↔ ks.Nodup := by
  have := cnt_eq (ks := ks) ks.length (Nat.le_refl _)
  rwa [List.take_length] at this
def lenSetD  : MF := fun ds s => match ds with
  | [d] => match (asL s d).bind dStrs with
    | some l => if l.length ≤ 2000 then .ok (.int (unlike l)) s else .stuck
    | none => .stuck
  | _ => .stuck
theorem lenSetD_at  (ds : List Dx) (s : Sto) : lenSetD  ds s = match ds with
  | [d] => match (asL s d).bind dStrs with
    | some l => if l.length ≤ 2000 then .ok (.int (unlike l)) s else .stuck
    | none => .stuck
  | _ => .stuck := rfl
/-- texts glued -/
def joinT (a : Tx) : List Tx → Tx
  | [] => []
  | y :: ys => y ++ (ys.map fun y => a ++ y).flatten
def eJoin (a b : ME) : ME := fun e s => (a e s).bind fun x s1 => match x with
  | .str z => (b e s1).bind fun y s2 => match (asQ s2 y).bind dStrs with
    | some l => if (l.map (·.length)).sum + l.length * z.length ≤ most then .ok (.str (joinT z l)) s2 else .stuck
    | none => .stuck
  | _ => .stuck
@[simp] theorem eJoin_at (a b : ME) (e : En) (s : Sto) : eJoin a b e s = (a e s).bind fun x s1 => match x with
  | .str z => (b e s1).bind fun y s2 => match (asQ s2 y).bind dStrs with
    | some l => if (l.map (·.length)).sum + l.length * z.length ≤ most then .ok (.str (joinT z l)) s2 else .stuck
    | none => .stuck
  | _ => .stuck := rfl
/-! ## isinstance -/
def isTy (s : Sto) (b : String) : Dx → Option Bool
  | .int _ => some (decide (b = "int"))
  | .bl _ => some (decide (b = "bool") || decide (b = "int"))
  | .non => some (decide (b = "NoneType"))
  | .str _ => some (decide (b = "str"))
  | .tup _ => some (decide (b = "tuple"))
  | .lst _ => some (decide (b = "list"))
  | .dct => some (decide (b = "dict"))
  | .obj _ _ => some false
  | .cell n => match s[n]? with
    | some (.lst _) => some (decide (b = "list"))
    | some (.obj _ _) => some false
    | _ => none
  | _ => none
def isSub (C X : String) : Bool := match subT.lookup C with
  | some z => z.1.contains X
  | none => false
def hasF (C f : String) : Bool := match subT.lookup C with
  | some z => z.2.contains f
  | none => false
def isSubX (C X : String) : Bool := match excT.lookup C with
  | some z => z.1.contains X
  | none => false
def inT (C : String) : Bool := (subT.lookup C).isSome
def inX (C : String) : Bool := (excT.lookup C).isSome
def isCl (s : Sto) (X : String) : Dx → Option Bool
  | .int _ => some false
  | .bl _ => some false
  | .non => some false
  | .str _ => some false
  | .tup _ => some false
  | .lst _ => some false
  | .dct => some false
  | .obj C _ => some (isSub C X)
  | .cell n => match s[n]? with
    | some (.lst _) => some false
    | some (.obj C _) => some (isSub C X)
    | _ => none
  | _ => none
def bTys : List String := ["int", "bool", "str", "NoneType", "tuple", "list", "dict"]
def isiD  : MF := fun ds s => match ds with
  | [d, c] => (match (match c with
    | .cls X => if inT X = true then isCl s X d else none
    | .ty b => if bTys.contains b = true then isTy s b d else none
    | _ => none) with
    | some b => .ok (.bl b) s
    | none => .stuck)
  | _ => .stuck
theorem isiD_at  (ds : List Dx) (s : Sto) : isiD  ds s = match ds with
  | [d, c] => (match (match c with
    | .cls X => if inT X = true then isCl s X d else none
    | .ty b => if bTys.contains b = true then isTy s b d else none
    | _ => none) with
    | some b => .ok (.bl b) s
    | none => .stuck)
  | _ => .stuck := rfl
/-! isinstance of what an except's suite holds -/
def isX (C : String) : Dx → Option Bool
  | .cls X => if inX X then some (isSubX C X) else none
  | .ty b => if b = "ValueError" then some true else none
  | _ => none
@[simp] def isXs (C : String) : List Dx → Option Bool
  | [] => some false
  | d :: ds => match isX C d, isXs C ds with
    | some a, some b => some (a || b)
    | _, _ => none
/-- isinstance(e, C), isinstance(e, (C, ..)), e.f of what the suite holds -/
def eIsE (c : ME) : ME := fun e s => (c e s).bind fun d s1 => match e.ex with
  | some (C, _) => (match isX C d with
    | some b => .ok (.bl b) s1
    | none => .stuck)
  | none => .stuck
@[simp] theorem eIsE_at (c : ME) (e : En) (s : Sto) : eIsE c e s = (c e s).bind fun d s1 => match e.ex with
  | some (C, _) => (match isX C d with
    | some b => .ok (.bl b) s1
    | none => .stuck)
  | none => .stuck := rfl
def eIsET (cs : MA) : ME := fun e s => (cs e s).bind fun ds s1 => match e.ex with
  | some (C, _) => if ds.length ≤ most then (match isXs C ds with
    | some b => .ok (.bl b) s1
    | none => .stuck) else .stuck
  | none => .stuck
@[simp] theorem eIsET_at (cs : MA) (e : En) (s : Sto) : eIsET cs e s = (cs e s).bind fun ds s1 => match e.ex with
  | some (C, _) => if ds.length ≤ most then (match isXs C ds with
    | some b => .ok (.bl b) s1
    | none => .stuck) else .stuck
  | none => .stuck := rfl
def eFldE (L : List String) (f : String) : ME := fun e s => match e.ex with
  | some (C, fs) => if L.contains C = true then (match fs.lookup f with
    | some d => .ok d s
    | none => .stuck) else .stuck
  | none => .stuck
@[simp] theorem eFldE_at (L : List String) (f : String) (e : En) (s : Sto) : eFldE L f e s = match e.ex with
  | some (C, fs) => if L.contains C = true then (match fs.lookup f with
    | some d => .ok d s
    | none => .stuck) else .stuck
  | none => .stuck := rfl
def isD1 (s : Sto) (d : Dx) : Dx → Option Bool
  | .cls X => if inT X = true then isCl s X d else none
  | .ty b => if bTys.contains b = true then isTy s b d else none
  | _ => none
@[simp] def isDs (s : Sto) (d : Dx) : List Dx → Option Bool
  | [] => some false
  | c :: cs => match isD1 s d c, isDs s d cs with
    | some a, some b => some (a || b)
    | _, _ => none
/-- isinstance(x, (C, ..)) -/
def eIsT (a : ME) (cs : MA) : ME := fun e s => (a e s).bind fun x s1 => (cs e s1).bind fun ds s2 => if ds.isEmpty = false ∧ ds.length ≤ most then (match isDs s2 x ds with
  | some b => .ok (.bl b) s2
  | none => .stuck) else .stuck
@[simp] theorem eIsT_at (a : ME) (cs : MA) (e : En) (s : Sto) : eIsT a cs e s = (a e s).bind fun x s1 => (cs e s1).bind fun ds s2 => if ds.isEmpty = false ∧ ds.length ≤ most then (match isDs s2 x ds with
  | some b => .ok (.bl b) s2
  | none => .stuck) else .stuck := rfl
/-! ## fields -/
def fldD (f : String) : O1 := fun x s => match asO s x with
  | some (_, fs) => match fs.lookup f with
    | some d => .ok d s
    | none => .stuck
  | none => .stuck
@[simp] theorem fldD_at (f : String) (x : Dx) (s : Sto) : fldD f x s = match asO s x with
  | some (_, fs) => match fs.lookup f with
    | some d => .ok d s
    | none => .stuck
  | none => .stuck := rfl
@[simp] def putE {α : Type} (f : String) (v : α) : List (String × α) → List (String × α)
  | [] => [(f, v)]
  | (g, x) :: r => if g = f then (f, v) :: r else (g, x) :: putE f v r
/-! ## calls, objects -/
def eMake0 (C : String) : ME := fun _ s => .ok (.obj C []) s
@[simp] theorem eMake0_at (C : String) (e0 : En) (s : Sto) : eMake0 C e0 s = .ok (.obj C []) s := rfl
def eMake (C : String) (f : MI) (as : MA) : ME := fun e s => (as e s).bind fun ds s1 => (f ds s1).bind fun fs s2 => .ok (.obj C fs) s2
@[simp] theorem eMake_at (C : String) (f : MI) (as : MA) (e : En) (s : Sto) : eMake C f as e s = (as e s).bind fun ds s1 => (f ds s1).bind fun fs s2 => .ok (.obj C fs) s2 := rfl
def eMakeD (C : String) (f : MI) (dv : List Dx) (as : MA) : ME := fun e s => (as e s).bind fun ds s1 => (f (ds ++ dv) s1).bind fun fs s2 => .ok (.obj C fs) s2
@[simp] theorem eMakeD_at (C : String) (f : MI) (dv : List Dx) (as : MA) (e : En) (s : Sto) : eMakeD C f dv as e s = (as e s).bind fun ds s1 => (f (ds ++ dv) s1).bind fun fs s2 => .ok (.obj C fs) s2 := rfl
/-- an object that may change: a cell -/
def eMakeC (C : String) (f : MF) (as : MA) : ME := fun e s => (as e s).bind fun ds s1 => (f (.cell s1.length :: ds) (s1 ++ [.obj C []])).bind fun v s2 => match v with
  | .non => .ok (.cell s1.length) s2
  | _ => .stuck
@[simp] theorem eMakeC_at (C : String) (f : MF) (as : MA) (e : En) (s : Sto) : eMakeC C f as e s = (as e s).bind fun ds s1 => (f (.cell s1.length :: ds) (s1 ++ [.obj C []])).bind fun v s2 => match v with
  | .non => .ok (.cell s1.length) s2
  | _ => .stuck := rfl
/-- C(.., k = v, ..): n places, m names -/
def eMakeK (C : String) (f : MI) (n m : Nat) (gd : List Dx → List Dx → List Dx) (as ks : MA) : ME := fun e s => (as e s).bind fun ds s1 => (ks e s1).bind fun zs s2 => if ds.length = n ∧ zs.length = m then (f (gd ds zs) s2).bind fun fs s3 => .ok (.obj C fs) s3 else .stuck
@[simp] theorem eMakeK_at (C : String) (f : MI) (n m : Nat) (gd : List Dx → List Dx → List Dx) (as ks : MA) (e : En) (s : Sto) : eMakeK C f n m gd as ks e s = (as e s).bind fun ds s1 => (ks e s1).bind fun zs s2 => if ds.length = n ∧ zs.length = m then (f (gd ds zs) s2).bind fun fs s3 => .ok (.obj C fs) s3 else .stuck := rfl
/-- o.m(..): by the class of o -/
def eMeth (l : List (String × MF)) (a : ME) (as : MA) : ME := fun e s => (a e s).calm.bind fun d s1 => match asO s1 d with
  | some (C, _) => match l.lookup C with
    | some f => (as e s1).bind fun ds s2 => f (d :: ds) s2
    | none => .stuck
  | none => .stuck
@[simp] theorem eMeth_at (l : List (String × MF)) (a : ME) (as : MA) (e : En) (s : Sto) : eMeth l a as e s = (a e s).calm.bind fun d s1 => match asO s1 d with
  | some (C, _) => match l.lookup C with
    | some f => (as e s1).bind fun ds s2 => f (d :: ds) s2
    | none => .stuck
  | none => .stuck := rfl
/-! ## comprehensions, loops -/
/-- what is walked: its items, the cell where it stands -/
abbrev MW := En → Sto → R (List Dx × Option Nat)
def wD (a : ME) : MW := fun e s => (a e s).bind fun x s1 => match x with
  | .lst xs => .ok (xs, none) s1
  | .fro xs => .ok (xs, none) s1
  | .tup xs => .ok (xs, none) s1
  | .str z => .ok (z.map fun c => .str [c], none) s1
  | .cell n => match s1[n]? with
    | some (.lst xs) => .ok (xs, some n) s1
    | _ => .stuck
  | _ => .stuck
@[simp] theorem wD_at (a : ME) (e : En) (s : Sto) : wD a e s = (a e s).bind fun x s1 => match x with
  | .lst xs => .ok (xs, none) s1
  | .fro xs => .ok (xs, none) s1
  | .tup xs => .ok (xs, none) s1
  | .str z => .ok (z.map fun c => .str [c], none) s1
  | .cell n => match s1[n]? with
    | some (.lst xs) => .ok (xs, some n) s1
    | _ => .stuck
  | _ => .stuck := rfl
def rng (lo : Int) (n : Nat) : List Dx := (List.range n).map fun (i : Nat) => Dx.int (lo + (i : Int))
def wRng1 (as : MA) : MW := fun e s => (as e s).bind fun ds s1 => match ds with
  | [.int j] => if -(2 ^ 60) ≤ j ∧ j ≤ 2 ^ 60 then .ok (rng 0 j.toNat, none) s1 else .stuck
  | _ => .stuck
@[simp] theorem wRng1_at (as : MA) (e : En) (s : Sto) : wRng1 as e s = (as e s).bind fun ds s1 => match ds with
  | [.int j] => if -(2 ^ 60) ≤ j ∧ j ≤ 2 ^ 60 then .ok (rng 0 j.toNat, none) s1 else .stuck
  | _ => .stuck := rfl
/-- list(range(n)) -/
def eListR (c : Bool) (a : ME) : ME := fun e s => (a e s).bind fun d s1 => match d with
  | .int j => if -1000000 ≤ j ∧ j ≤ 1000000 then newL c (rng 0 j.toNat) s1 else .stuck
  | _ => .stuck
@[simp] theorem eListR_at (c : Bool) (a : ME) (e : En) (s : Sto) : eListR c a e s = (a e s).bind fun d s1 => match d with
  | .int j => if -1000000 ≤ j ∧ j ≤ 1000000 then newL c (rng 0 j.toNat) s1 else .stuck
  | _ => .stuck := rfl
def wRng2 (as : MA) : MW := fun e s => (as e s).bind fun ds s1 => match ds with
  | [.int i, .int j] => if -(2 ^ 60) ≤ i ∧ i ≤ 2 ^ 60 ∧ -(2 ^ 60) ≤ j ∧ j ≤ 2 ^ 60 then .ok (rng i (j - i).toNat, none) s1 else .stuck
  | _ => .stuck
@[simp] theorem wRng2_at (as : MA) (e : En) (s : Sto) : wRng2 as e s = (as e s).bind fun ds s1 => match ds with
  | [.int i, .int j] => if -(2 ^ 60) ≤ i ∧ i ≤ 2 ^ 60 ∧ -(2 ^ 60) ≤ j ∧ j ≤ 2 ^ 60 then .ok (rng i (j - i).toNat, none) s1 else .stuck
  | _ => .stuck := rfl
def stands (c : Option Nat) (xs : List Dx) (s : Sto) : Prop := match c with
  | none => True
  | some n => s[n]? = some (.lst xs)
@[simp] theorem stands_none {xs : List Dx} {s : Sto} : stands none xs s = True := rfl
theorem stands_some {n : Nat} {xs : List Dx} {s : Sto} : stands (some n) xs s = (s[n]? = some (.lst xs)) := rfl
abbrev MG := Dx → En → Sto → Option En
def hNm (i : Nat) : MG := fun d e _ => some { e with sl := e.sl.set i (some d) }
@[simp] theorem hNm_at (i : Nat) (d : Dx) (e : En) (s0 : Sto) : hNm i d e s0 = some { e with sl := e.sl.set i (some d) } := rfl
abbrev MGs := List Dx → En → Sto → Option En
def hNil  : MGs := fun ds e _ => match ds with
  | [] => some e
  | _ => none
@[simp] theorem hNil_at  (ds : List Dx) (e : En) (s0 : Sto) : hNil  ds e s0 = match ds with
  | [] => some e
  | _ => none := rfl
def hCons (g : MG) (gs : MGs) : MGs := fun ds e s => match ds with
  | d :: ds => (g d e s).bind fun e1 => gs ds e1 s
  | [] => none
@[simp] theorem hCons_at (g : MG) (gs : MGs) (ds : List Dx) (e : En) (s : Sto) : hCons g gs ds e s = match ds with
  | d :: ds => (g d e s).bind fun e1 => gs ds e1 s
  | [] => none := rfl
def hTup (n : Nat) (gs : MGs) : MG := fun d e s => match d with
  | .tup xs => if xs.length = n then gs xs e s else none
  | _ => none
@[simp] theorem hTup_at (n : Nat) (gs : MGs) (d : Dx) (e : En) (s : Sto) : hTup n gs d e s = match d with
  | .tup xs => if xs.length = n then gs xs e s else none
  | _ => none := rfl
/-- a, b = a list -/
def hLst (n : Nat) (gs : MGs) : MG := fun d e s => match asL s d with
  | some xs => if xs.length = n then gs xs e s else none
  | none => none
@[simp] theorem hLst_at (n : Nat) (gs : MGs) (d : Dx) (e : En) (s : Sto) : hLst n gs d e s = match asL s d with
  | some xs => if xs.length = n then gs xs e s else none
  | none => none := rfl
@[simp] def wipeE (l : List (Option Dx)) : List Nat → List (Option Dx)
  | [] => l
  | v :: vs => (wipeE l vs).set v none
open Classical in
noncomputable def lcL (g : MG) (tt : MT) (te : ME) (e : En) (c : Option Nat) (all : List Dx) : List Dx → Sto → R (List Dx)
  | [], s => if stands c all s then .ok [] s else .stuck
  | x :: xs, s => if stands c all s then (match g x e s with
    | some e1 => (tt e1 s).calm.bind fun b s1 => if b = true then (te e1 s1).calm.bind fun y s2 => (lcL g tt te e c all xs s2).bind fun ys s3 => .ok (y :: ys) s3 else lcL g tt te e c all xs s1
    | none => .stuck) else .stuck
noncomputable def eLc (k : Bool) (w : MW) (g : MG) (tt : MT) (te : ME) (ws : List Nat) : ME := fun e s => (w e s).bind fun x s1 => if x.1.length ≤ most then
  (lcL g tt te { e with sl := wipeE e.sl ws } x.2 x.1 x.1 s1).bind fun ys s2 => newL k ys s2 else .stuck
@[simp] theorem eLc_at (k : Bool) (w : MW) (g : MG) (tt : MT) (te : ME) (ws : List Nat) (e : En) (s : Sto) : eLc k w g tt te ws e s = (w e s).bind fun x s1 => if x.1.length ≤ most then
  (lcL g tt te { e with sl := wipeE e.sl ws } x.2 x.1 x.1 s1).bind fun ys s2 => newL k ys s2 else .stuck := rfl
/-! ## statements -/
def sNext  : MS := fun e s => .nx e s
@[simp] theorem sNext_at  (e : En) (s : Sto) : sNext  e s = .nx e s := rfl
def sSeq (t u : MS) : MS := fun e s => match t e s with
  | .nx e1 s1 => u e1 s1
  | r => r
def S.sq : S → MS → S
  | .nx e s, u => u e s
  | r, _ => r
@[simp] theorem sq_nx (e : En) (s : Sto) (u : MS) : S.sq (.nx e s) u = u e s := rfl
@[simp] theorem sq_rt (v : Dx) (s : Sto) (u : MS) : S.sq (.rt v s) u = .rt v s := rfl
@[simp] theorem sq_bk (e : En) (s : Sto) (u : MS) : S.sq (.bk e s) u = .bk e s := rfl
@[simp] theorem sq_ct (e : En) (s : Sto) (u : MS) : S.sq (.ct e s) u = .ct e s := rfl
@[simp] theorem sq_exc (C : String) (fs : Fs) (e : En) (s : Sto) (u : MS) : S.sq (.exc C fs e s) u = .exc C fs e s := rfl
@[simp] theorem sq_stuck (u : MS) : S.sq .stuck u = .stuck := rfl
@[simp] theorem sSeq_at (t u : MS) (e : En) (s : Sto) : sSeq t u e s = S.sq (t e s) u := by unfold sSeq; cases t e s <;> rfl
def sAsg (a : ME) (g : MG) : MS := fun e s => (a e s).s e fun x s1 => match g x e s1 with
  | some e1 => .nx e1 s1
  | none => .stuck
@[simp] theorem sAsg_at (a : ME) (g : MG) (e : En) (s : Sto) : sAsg a g e s = (a e s).s e fun x s1 => match g x e s1 with
  | some e1 => .nx e1 s1
  | none => .stuck := rfl
def sAug (i : Nat) (a : ME) (f : O2) : MS := fun e s => match e.sl[i]? with
  | some (some x) => (a e s).s e fun y s1 => (f x y s1).s e fun z s2 => .nx { e with sl := e.sl.set i (some z) } s2
  | _ => .stuck
@[simp] theorem sAug_at (i : Nat) (a : ME) (f : O2) (e : En) (s : Sto) : sAug i a f e s = match e.sl[i]? with
  | some (some x) => (a e s).s e fun y s1 => (f x y s1).s e fun z s2 => .nx { e with sl := e.sl.set i (some z) } s2
  | _ => .stuck := rfl
def sDrop (a : ME) : MS := fun e s => (a e s).s e fun _ s1 => .nx e s1
@[simp] theorem sDrop_at (a : ME) (e : En) (s : Sto) : sDrop a e s = (a e s).s e fun _ s1 => .nx e s1 := rfl
def sRet (a : ME) : MS := fun e s => (a e s).s e fun x s1 => .rt x s1
@[simp] theorem sRet_at (a : ME) (e : En) (s : Sto) : sRet a e s = (a e s).s e fun x s1 => .rt x s1 := rfl
def sRetN  : MS := fun _ s => .rt .non s
@[simp] theorem sRetN_at  (e0 : En) (s : Sto) : sRetN  e0 s = .rt .non s := rfl
def sIf (t : MT) (a b : MS) : MS := fun e s => (t e s).s e fun c s1 => if c = true then a e s1 else b e s1
def R.sif : R Bool → En → MS → MS → S
  | .ok c s, e, a, b => if c = true then a e s else b e s
  | .exc C f s, e, _, _ => .exc C f e s
  | .stuck, _, _, _ => .stuck
@[simp] theorem sif_ok (c : Bool) (s : Sto) (e : En) (a b : MS) : R.sif (.ok c s) e a b = if c = true then a e s else b e s := rfl
@[simp] theorem sif_exc (C : String) (f : Fs) (s : Sto) (e : En) (a b : MS) : R.sif (.exc C f s) e a b = .exc C f e s := rfl
@[simp] theorem sIf_at (t : MT) (a b : MS) (e : En) (s : Sto) : sIf t a b e s = R.sif (t e s) e a b := by unfold sIf; cases t e s <;> rfl
def sBreak  : MS := fun e s => .bk e s
@[simp] theorem sBreak_at  (e : En) (s : Sto) : sBreak  e s = .bk e s := rfl
def sCont  : MS := fun e s => .ct e s
@[simp] theorem sCont_at  (e : En) (s : Sto) : sCont  e s = .ct e s := rfl
/-- a[i] = v -/
def sPut (o i a : ME) : MS := fun e s => (a e s).s e fun v s1 => (o e s1).s e fun x s2 => (i e s2).s e fun j s3 => match x, j with
  | .cell n, .int k => match s3[n]? with
    | some (.lst xs) => if 0 ≤ k ∧ k < xs.length then .nx e (s3.set n (.lst (xs.set k.toNat v))) else .stuck
    | _ => .stuck
  | _, _ => .stuck
@[simp] theorem sPut_at (o i a : ME) (e : En) (s : Sto) : sPut o i a e s = (a e s).s e fun v s1 => (o e s1).s e fun x s2 => (i e s2).s e fun j s3 => match x, j with
  | .cell n, .int k => match s3[n]? with
    | some (.lst xs) => if 0 ≤ k ∧ k < xs.length then .nx e (s3.set n (.lst (xs.set k.toNat v))) else .stuck
    | _ => .stuck
  | _, _ => .stuck := rfl
/-- xs.append(v) -/
def eApp (o a : ME) : ME := fun e s => (o e s).bind fun x s1 => match x with
  | .cell n => match s1[n]? with
    | some (.lst _) => (a e s1).bind fun v s2 => match s2[n]? with
      | some (.lst xs) => if xs.length < most then .ok .non (s2.set n (.lst (xs ++ [v]))) else .stuck
      | _ => .stuck
    | _ => .stuck
  | _ => .stuck
@[simp] theorem eApp_at (o a : ME) (e : En) (s : Sto) : eApp o a e s = (o e s).bind fun x s1 => match x with
  | .cell n => match s1[n]? with
    | some (.lst _) => (a e s1).bind fun v s2 => match s2[n]? with
      | some (.lst xs) => if xs.length < most then .ok .non (s2.set n (.lst (xs ++ [v]))) else .stuck
      | _ => .stuck
    | _ => .stuck
  | _ => .stuck := rfl
/-- self.f = v in an __init__ -/
def sMe (f : String) (a : ME) : MS := fun e s => (a e s).s e fun v s1 => if e.me.length < 900 then .nx { e with me := putE f v e.me } s1 else .stuck
@[simp] theorem sMe_at (f : String) (a : ME) (e : En) (s : Sto) : sMe f a e s = (a e s).s e fun v s1 => if e.me.length < 900 then .nx { e with me := putE f v e.me } s1 else .stuck := rfl
def eMeF (f : String) : ME := fun e s => match e.me.lookup f with
  | some d => .ok d s
  | none => .stuck
@[simp] theorem eMeF_at (f : String) (e : En) (s : Sto) : eMeF f e s = match e.me.lookup f with
  | some d => .ok d s
  | none => .stuck := rfl
/-- o.f = v, o a cell's object -/
def sSet (f : String) (o a : ME) : MS := fun e s => (a e s).s e fun v s1 => (o e s1).s e fun x s2 => match x with
  | .cell n => match s2[n]? with
    | some (.obj C fs) => if hasF C f = true ∧ fs.length < 900 then .nx e (s2.set n (.obj C (putE f v fs))) else .stuck
    | _ => .stuck
  | _ => .stuck
@[simp] theorem sSet_at (f : String) (o a : ME) (e : En) (s : Sto) : sSet f o a e s = (a e s).s e fun v s1 => (o e s1).s e fun x s2 => match x with
  | .cell n => match s2[n]? with
    | some (.obj C fs) => if hasF C f = true ∧ fs.length < 900 then .nx e (s2.set n (.obj C (putE f v fs))) else .stuck
    | _ => .stuck
  | _ => .stuck := rfl
def sRaise (C : String) : MS := fun e s => .exc C [] e s
@[simp] theorem sRaise_at (C : String) (e : En) (s : Sto) : sRaise C e s = .exc C [] e s := rfl
/-- raise C(..): C's own __init__ of n parameters sets field f of argument j (the object is argument 0) -/
def sRaiseO (C f : String) (j n : Nat) (dv : List Dx) (as : MA) : MS := fun e s => (as e s).s e fun ds s1 => if ds.length ≤ 1000 ∧ (ds ++ dv).length + 1 = n then (match (Dx.non :: (ds ++ dv))[j]? with
  | some d => if 0 < j then .exc C [(f, d)] e s1 else .stuck
  | none => .stuck) else .stuck
@[simp] theorem sRaiseO_at (C f : String) (j n : Nat) (dv : List Dx) (as : MA) (e : En) (s : Sto) : sRaiseO C f j n dv as e s = (as e s).s e fun ds s1 => if ds.length ≤ 1000 ∧ (ds ++ dv).length + 1 = n then (match (Dx.non :: (ds ++ dv))[j]? with
  | some d => if 0 < j then .exc C [(f, d)] e s1 else .stuck
  | none => .stuck) else .stuck := rfl
/-! ## the text of a part: an int's, a text's, some text of a short tuple; f'{a}t{b}' -/
def smI (i : Int) : Bool := decide (-(10 ^ 100) ≤ i) && decide (i ≤ 10 ^ 100)
def allI : List Dx → Bool
  | [] => true
  | .int i :: xs => smI i && allI xs
  | _ => false
def prD : Dx → Bool
  | .int i => smI i
  | .tup xs => decide (xs.length ≤ 4) && allI xs
  | _ => false
def strT : MF := fun ds s => match ds with
  | [.int i] => if smI i = true then .ok (.str (txI i)) s else .stuck
  | [.str z] => .ok (.str z) s
  | [.tup xs] => if xs.length ≤ 100 ∧ xs.all prD = true then .ok .unk s else .stuck
  | _ => .stuck
@[simp] theorem strT_i (i : Int) (s : Sto) : strT [.int i] s = if smI i = true then .ok (.str (txI i)) s else .stuck := rfl
@[simp] theorem strT_s (z : Tx) (s : Sto) : strT [.str z] s = .ok (.str z) s := rfl
@[simp] theorem strT_t (xs : List Dx) (s : Sto) : strT [.tup xs] s = if xs.length ≤ 100 ∧ xs.all prD = true then .ok .unk s else .stuck := rfl
def eFm (a : ME) (t : Tx) (b : ME) : ME := fun e s => (a e s).bind fun x s1 => match x with
  | .int i => if smI i = true ∧ t.length ≤ 1000 then (b e s1).bind fun y s2 => match y with
    | .int j => if smI j = true then .ok (.str (txI i ++ t ++ txI j)) s2 else .stuck
    | _ => .stuck
    else .stuck
  | _ => .stuck
@[simp] theorem eFm_at (a : ME) (t : Tx) (b : ME) (e : En) (s : Sto) : eFm a t b e s = (a e s).bind fun x s1 => match x with
  | .int i => if smI i = true ∧ t.length ≤ 1000 then (b e s1).bind fun y s2 => match y with
    | .int j => if smI j = true then .ok (.str (txI i ++ t ++ txI j)) s2 else .stuck
    | _ => .stuck
    else .stuck
  | _ => .stuck := rfl
/-! ## a lambda of one parameter handed on; the parameter called (its slot holds .unk) -/
def lamM (mb : ME) (e : En) : MF := fun ds s => match ds with
  | [d] => mb ⟨e.sl ++ [some d], [], none⟩ s
  | _ => .stuck
@[simp] theorem lamM_at (mb : ME) (e : En) (d : Dx) (s : Sto) : lamM mb e [d] s = mb ⟨e.sl ++ [some d], [], none⟩ s := rfl
def eCallF (i : Nat) (r : MF) (a : ME) : ME := fun e s => match e.sl[i]? with
  | some (some .unk) => (a e s).bind fun d s1 => r [d] s1
  | _ => .stuck
@[simp] theorem eCallF_at (i : Nat) (r : MF) (a : ME) (e : En) (s : Sto) : eCallF i r a e s = match e.sl[i]? with
  | some (some .unk) => (a e s).bind fun d s1 => r [d] s1
  | _ => .stuck := rfl
/-- g(a, lambda x: mb): k, the maker's table -/
def eHof (k : Nat) (F : MF → MF) (mb : ME) (a : ME) : ME := fun e s => (a e s).bind fun d s1 => match s1[k]? with
  | some (.tbl j) => if j = k then F (lamM mb e) [d, .unk] s1 else .stuck
  | _ => .stuck
@[simp] theorem eHof_at (k : Nat) (F : MF → MF) (mb : ME) (a : ME) (e : En) (s : Sto) : eHof k F mb a e s = (a e s).bind fun d s1 => match s1[k]? with
  | some (.tbl j) => if j = k then F (lamM mb e) [d, .unk] s1 else .stuck
  | _ => .stuck := rfl
/-! ## texts cut, read as numbers; a def's name as a value -/
def splT (S : Tx) : Nat → Tx → Tx → List Tx
  | _, acc, [] => [acc]
  | 0, acc, c :: r => if (c :: r).take S.length == S then acc :: splT S (S.length - 1) [] r else splT S 0 (acc ++ [c]) r
  | k + 1, acc, _ :: r => splT S k acc r
/-- what stands ahead of the first S, and behind it -/
def parT (S : Tx) : Tx → Tx → Option (Tx × Tx)
  | _, [] => none
  | acc, c :: r => if (c :: r).take S.length == S then some (acc, (c :: r).drop S.length) else parT S (acc ++ [c]) r
def ePart (a b : ME) : ME := fun e s => (a e s).bind fun x s1 => match x with
  | .str z => (b e s1).bind fun y s2 => match y with
    | .str t => if t ≠ [] ∧ z.length ≤ most then .ok (match parT t [] z with
      | some (p, q) => .tup [.str p, .str t, .str q]
      | none => .tup [.str z, .str [], .str []]) s2 else .stuck
    | _ => .stuck
  | _ => .stuck
@[simp] theorem ePart_at (a b : ME) (e : En) (s : Sto) : ePart a b e s = (a e s).bind fun x s1 => match x with
  | .str z => (b e s1).bind fun y s2 => match y with
    | .str t => if t ≠ [] ∧ z.length ≤ most then .ok (match parT t [] z with
      | some (p, q) => .tup [.str p, .str t, .str q]
      | none => .tup [.str z, .str [], .str []]) s2 else .stuck
    | _ => .stuck
  | _ => .stuck := rfl
def eSplit (c : Bool) (a b : ME) : ME := fun e s => (a e s).bind fun x s1 => match x with
  | .str z => (b e s1).bind fun y s2 => match y with
    | .str t => if t ≠ [] ∧ (t.all fun c => decide (c < 256)) = true ∧ z.length ≤ most then newL c ((splT t 0 [] z).map Dx.str) s2 else .stuck
    | _ => .stuck
  | _ => .stuck
@[simp] theorem eSplit_at (c : Bool) (a b : ME) (e : En) (s : Sto) : eSplit c a b e s = (a e s).bind fun x s1 => match x with
  | .str z => (b e s1).bind fun y s2 => match y with
    | .str t => if t ≠ [] ∧ (t.all fun c => decide (c < 256)) = true ∧ z.length ≤ most then newL c ((splT t 0 [] z).map Dx.str) s2 else .stuck
    | _ => .stuck
  | _ => .stuck := rfl
def eStarts (a b : ME) : ME := fun e s => (a e s).bind fun x s1 => match x with
  | .str z => (b e s1).bind fun y s2 => match y with
    | .str t => .ok (.bl (z.take t.length == t)) s2
    | _ => .stuck
  | _ => .stuck
@[simp] theorem eStarts_at (a b : ME) (e : En) (s : Sto) : eStarts a b e s = (a e s).bind fun x s1 => match x with
  | .str z => (b e s1).bind fun y s2 => match y with
    | .str t => .ok (.bl (z.take t.length == t)) s2
    | _ => .stuck
  | _ => .stuck := rfl
def figs (z : Tx) : Bool := !z.isEmpty && z.all fun c => decide (48 ≤ c) && decide (c ≤ 57)
def numT (z : Tx) : Nat := z.foldl (fun n c => n * 10 + (c - 48)) 0
def intOf (z : Tx) : Option Int := if figs z = true then some (numT z : Int) else match z with
  | 45 :: r => if figs r = true then some (-(numT r : Int)) else none
  | _ => none
def intT : MF := fun ds s => match ds with
  | [.str z] => if z.length ≤ 640 then (match intOf z with
    | some i => .ok (.int i) s
    | none => .stuck) else .stuck
  | _ => .stuck
@[simp] theorem intT_at (z : Tx) (s : Sto) : intT [.str z] s = if z.length ≤ 640 then (match intOf z with
    | some i => .ok (.int i) s
    | none => .stuck) else .stuck := rfl
/-- the slot's def is called; else the rest -/
def eCallV (x : String) (f : MF) (dv : List Dx) (i : Nat) (as : MA) (rest : ME) : ME := fun e s => match e.sl[i]? with
  | some (some (.cls y)) => if y = x then (as e s).bind fun ds s1 => f (ds ++ dv) s1 else rest e s
  | _ => .stuck
@[simp] theorem eCallV_at (x : String) (f : MF) (dv : List Dx) (i : Nat) (as : MA) (rest : ME) (e : En) (s : Sto) : eCallV x f dv i as rest e s = match e.sl[i]? with
  | some (some (.cls y)) => if y = x then (as e s).bind fun ds s1 => f (ds ++ dv) s1 else rest e s
  | _ => .stuck := rfl
def eNone : ME := fun _ _ => .stuck
/-- exceptions that may bear a context -/
def othN : List String := ["NoText"]
/-- try: body except (Xs): suite, without a name -/
def sTryR (body : MS) (Xs : List String) (suite : MS) : MS := fun e s => match body e s with
  | .exc C fs e1 s1 => if Xs.any (fun X => isSubX C X) = true then suite e1 s1 else .exc C fs e1 s1
  | r => r
@[simp] theorem sTryR_at (body : MS) (Xs : List String) (suite : MS) (e : En) (s : Sto) : sTryR body Xs suite e s = match body e s with
  | .exc C fs e1 s1 => if Xs.any (fun X => isSubX C X) = true then suite e1 s1 else .exc C fs e1 s1
  | r => r := rfl
/-- try: body except X as slot i: suite -/
def sTry (body : MS) (X : String) (i : Nat) (suite : MS) : MS := fun e s => match body e s with
  | .exc C fs e1 s1 => if isSubX C X = true then if i < e1.sl.length then (match suite ⟨e1.sl.set i none, e1.me, some (C, fs)⟩ s1 with
      | .nx e2 s2 => .nx ⟨e2.sl.set i none, e2.me, none⟩ s2
      | .bk e2 s2 => .bk ⟨e2.sl.set i none, e2.me, none⟩ s2
      | .ct e2 s2 => .ct ⟨e2.sl.set i none, e2.me, none⟩ s2
      | .rt v s2 => .rt v s2
      | _ => .stuck) else .stuck
    else .exc C fs e1 s1
  | r => r
def S.ends (i : Nat) : S → S
  | .nx e2 s2 => .nx ⟨e2.sl.set i none, e2.me, none⟩ s2
  | .bk e2 s2 => .bk ⟨e2.sl.set i none, e2.me, none⟩ s2
  | .ct e2 s2 => .ct ⟨e2.sl.set i none, e2.me, none⟩ s2
  | .rt v s2 => .rt v s2
  | _ => .stuck
@[simp] theorem ends_nx (i : Nat) (e : En) (s : Sto) : S.ends i (.nx e s) = .nx ⟨e.sl.set i none, e.me, none⟩ s := rfl
@[simp] theorem ends_rt (i : Nat) (v : Dx) (s : Sto) : S.ends i (.rt v s) = .rt v s := rfl
@[simp] theorem ends_ct (i : Nat) (e : En) (s : Sto) : S.ends i (.ct e s) = .ct ⟨e.sl.set i none, e.me, none⟩ s := rfl
def S.tr (X : String) (i : Nat) (u : MS) : S → S
  | .exc C fs e1 s1 => if isSubX C X = true then if i < e1.sl.length then S.ends i (u ⟨e1.sl.set i none, e1.me, some (C, fs)⟩ s1) else .stuck else .exc C fs e1 s1
  | r => r
@[simp] theorem tr_nx (X : String) (i : Nat) (u : MS) (e : En) (s : Sto) : S.tr X i u (.nx e s) = .nx e s := rfl
@[simp] theorem tr_rt (X : String) (i : Nat) (u : MS) (v : Dx) (s : Sto) : S.tr X i u (.rt v s) = .rt v s := rfl
@[simp] theorem tr_exc (X C : String) (i : Nat) (u : MS) (fs : Fs) (e1 : En) (s1 : Sto) : S.tr X i u (.exc C fs e1 s1) = if isSubX C X = true then if i < e1.sl.length then S.ends i (u ⟨e1.sl.set i none, e1.me, some (C, fs)⟩ s1) else .stuck else .exc C fs e1 s1 := rfl
@[simp] theorem sTry_at (body : MS) (X : String) (i : Nat) (suite : MS) (e : En) (s : Sto) : sTry body X i suite e s = S.tr X i suite (body e s) := by
  unfold sTry
  cases hb : body e s with
  | exc C fs e1 s1 =>
    simp only [tr_exc]
    congr
  | _ => rfl
open Classical in
noncomputable def forL (g : MG) (b : MS) (c : Option Nat) (all : List Dx) : List Dx → MS
  | [] => fun e s => if stands c all s then .nx e s else .stuck
  | x :: xs => fun e s => if stands c all s then (match g x e s with
    | some e1 => (match b e1 s with
      | .nx e2 s2 => forL g b c all xs e2 s2
      | .ct e2 s2 => forL g b c all xs e2 s2
      | .bk e2 s2 => .nx e2 s2
      | r => r)
    | none => .stuck) else .stuck
noncomputable def sFor (w : MW) (g : MG) (b : MS) : MS := fun e s => (w e s).s e fun x s1 => forL g b x.2 x.1 x.1 e s1
@[simp] theorem sFor_at (w : MW) (g : MG) (b : MS) (e : En) (s : Sto) : sFor w g b e s = (w e s).s e fun x s1 => forL g b x.2 x.1 x.1 e s1 := rfl
def whileL (t : MT) (b : MS) : Nat → MS
  | 0 => fun _ _ => .stuck
  | n + 1 => fun e s => (t e s).s e fun c s1 => if c = true then (match b e s1 with
    | .nx e2 s2 => whileL t b n e2 s2
    | .ct e2 s2 => whileL t b n e2 s2
    | .bk e2 s2 => .nx e2 s2
    | r => r) else .nx e s1
def sWhile (n : Nat) (t : MT) (b : MS) : MS := whileL t b n
@[simp] theorem sWhile_at (n : Nat) (t : MT) (b : MS) (e : En) (s : Sto) : sWhile n t b e s = whileL t b n e s := rfl
/-! ## more of lists -/
/-- xs.clear() -/
def eClear (o : ME) : ME := fun e s => (o e s).bind fun x s1 => match x with
  | .cell n => match s1[n]? with
    | some (.lst _) => .ok .non (s1.set n (.lst []))
    | _ => .stuck
  | _ => .stuck
@[simp] theorem eClear_at (o : ME) (e : En) (s : Sto) : eClear o e s = (o e s).bind fun x s1 => match x with
  | .cell n => match s1[n]? with
    | some (.lst _) => .ok .non (s1.set n (.lst []))
    | _ => .stuck
  | _ => .stuck := rfl
/-- xs.pop() -/
def ePop (o : ME) : ME := fun e s => (o e s).bind fun x s1 => match x with
  | .cell n => match s1[n]? with
    | some (.lst xs) => match xs[xs.length - 1]? with
      | some d => .ok d (s1.set n (.lst xs.dropLast))
      | none => .stuck
    | _ => .stuck
  | _ => .stuck
@[simp] theorem ePop_at (o : ME) (e : En) (s : Sto) : ePop o e s = (o e s).bind fun x s1 => match x with
  | .cell n => match s1[n]? with
    | some (.lst xs) => match xs[xs.length - 1]? with
      | some d => .ok d (s1.set n (.lst xs.dropLast))
      | none => .stuck
    | _ => .stuck
  | _ => .stuck := rfl
/-- xs.pop(0) -/
def ePop0 (o : ME) : ME := fun e s => (o e s).bind fun x s1 => match x with
  | .cell n => match s1[n]? with
    | some (.lst (d :: xs)) => .ok d (s1.set n (.lst xs))
    | _ => .stuck
  | _ => .stuck
@[simp] theorem ePop0_at (o : ME) (e : En) (s : Sto) : ePop0 o e s = (o e s).bind fun x s1 => match x with
  | .cell n => match s1[n]? with
    | some (.lst (d :: xs)) => .ok d (s1.set n (.lst xs))
    | _ => .stuck
  | _ => .stuck := rfl
/-- xs.extend(ys) -/
def eExt (o a : ME) : ME := fun e s => (o e s).bind fun x s1 => match x with
  | .cell n => match s1[n]? with
    | some (.lst _) => (a e s1).bind fun v s2 => match asM s2 v, s2[n]? with
      | some ys, some (.lst xs) => if xs.length + ys.length ≤ most then .ok .non (s2.set n (.lst (xs ++ ys))) else .stuck
      | _, _ => .stuck
    | _ => .stuck
  | _ => .stuck
@[simp] theorem eExt_at (o a : ME) (e : En) (s : Sto) : eExt o a e s = (o e s).bind fun x s1 => match x with
  | .cell n => match s1[n]? with
    | some (.lst _) => (a e s1).bind fun v s2 => match asM s2 v, s2[n]? with
      | some ys, some (.lst xs) => if xs.length + ys.length ≤ most then .ok .non (s2.set n (.lst (xs ++ ys))) else .stuck
      | _, _ => .stuck
    | _ => .stuck
  | _ => .stuck := rfl
/-- xs.index(v): the first place of it -/
def idxOf (v : Dx) : List Dx → Option Nat
  | [] => none
  | x :: xs => if eqv x v = true then some 0 else (idxOf v xs).map (· + 1)
def eIndex (o a : ME) : ME := fun e s => (o e s).bind fun x s1 => match asL s1 x with
  | some _ => (a e s1).bind fun v s2 => match asL s2 x with
    | some xs => if (flat v && xs.all flat) = true then (match idxOf v xs with
      | some j => .ok (.int j) s2
      | none => .stuck) else .stuck
    | none => .stuck
  | none => .stuck
@[simp] theorem eIndex_at (o a : ME) (e : En) (s : Sto) : eIndex o a e s = (o e s).bind fun x s1 => match asL s1 x with
  | some _ => (a e s1).bind fun v s2 => match asL s2 x with
    | some xs => if (flat v && xs.all flat) = true then (match idxOf v xs with
      | some j => .ok (.int j) s2
      | none => .stuck) else .stuck
    | none => .stuck
  | none => .stuck := rfl
/-- o.f += v, o a cell's object -/
def sAugF (f : String) (o a : ME) (op : O2) : MS := fun e s => (o e s).s e fun x s1 => match x with
  | .cell n => match s1[n]? with
    | some (.obj C fs) => match fs.lookup f with
      | some d => (a e s1).s e fun y s2 => (op d y s2).s e fun z s3 => match s3[n]? with
        | some (.obj C2 fs2) => if C2 = C ∧ hasF C f = true ∧ fs2.length < 900 then .nx e (s3.set n (.obj C2 (putE f z fs2))) else .stuck
        | _ => .stuck
      | none => .stuck
    | _ => .stuck
  | _ => .stuck
@[simp] theorem sAugF_at (f : String) (o a : ME) (op : O2) (e : En) (s : Sto) : sAugF f o a op e s = (o e s).s e fun x s1 => match x with
  | .cell n => match s1[n]? with
    | some (.obj C fs) => match fs.lookup f with
      | some d => (a e s1).s e fun y s2 => (op d y s2).s e fun z s3 => match s3[n]? with
        | some (.obj C2 fs2) => if C2 = C ∧ hasF C f = true ∧ fs2.length < 900 then .nx e (s3.set n (.obj C2 (putE f z fs2))) else .stuck
        | _ => .stuck
      | none => .stuck
    | _ => .stuck
  | _ => .stuck := rfl
/-! ## pairs that are walked: enumerate, zip; the items, the cell that must stand, its list -/
abbrev MX := En → Sto → R (List Dx × Option Nat × List Dx)
def cellOf (s : Sto) : Dx → Option (List Dx × Option Nat)
  | .lst xs => some (xs, none)
  | .fro xs => some (xs, none)
  | .cell n => match s[n]? with
    | some (.lst xs) => some (xs, some n)
    | _ => none
  | _ => none
def enumL : Nat → List Dx → List Dx
  | _, [] => []
  | n, x :: xs => .tup [.int n, x] :: enumL (n + 1) xs
def xEnum (a : ME) : MX := fun e s => (a e s).bind fun x s1 => match cellOf s1 x with
  | some (xs, c) => .ok (enumL 0 xs, c, xs) s1
  | none => .stuck
@[simp] theorem xEnum_at (a : ME) (e : En) (s : Sto) : xEnum a e s = (a e s).bind fun x s1 => match cellOf s1 x with
  | some (xs, c) => .ok (enumL 0 xs, c, xs) s1
  | none => .stuck := rfl
def zipL : List Dx → List Dx → List Dx
  | x :: xs, y :: ys => .tup [x, y] :: zipL xs ys
  | _, _ => []
def xZip (a b : ME) : MX := fun e s => (a e s).bind fun x s1 => (b e s1).bind fun y s2 => match x, y with
  | .tup xs, .tup ys => .ok (zipL xs ys, none, []) s2
  | x, y => match cellOf s2 x, cellOf s2 y with
    | some (xs, c), some (ys, none) => .ok (zipL xs ys, c, xs) s2
    | some (xs, none), some (ys, c) => .ok (zipL xs ys, c, ys) s2
    | _, _ => .stuck
@[simp] theorem xZip_at (a b : ME) (e : En) (s : Sto) : xZip a b e s = (a e s).bind fun x s1 => (b e s1).bind fun y s2 => match x, y with
  | .tup xs, .tup ys => .ok (zipL xs ys, none, []) s2
  | x, y => match cellOf s2 x, cellOf s2 y with
    | some (xs, c), some (ys, none) => .ok (zipL xs ys, c, xs) s2
    | some (xs, none), some (ys, c) => .ok (zipL xs ys, c, ys) s2
    | _, _ => .stuck := rfl
noncomputable def sForX (w : MX) (g : MG) (b : MS) : MS := fun e s => (w e s).s e fun x s1 => forL g b x.2.1 x.2.2 x.1 e s1
@[simp] theorem sForX_at (w : MX) (g : MG) (b : MS) (e : En) (s : Sto) : sForX w g b e s = (w e s).s e fun x s1 => forL g b x.2.1 x.2.2 x.1 e s1 := rfl
noncomputable def eLcX (k : Bool) (w : MX) (g : MG) (tt : MT) (te : ME) (ws : List Nat) : ME := fun e s => (w e s).bind fun x s1 => if x.1.length ≤ most then
  (lcL g tt te { e with sl := wipeE e.sl ws } x.2.1 x.2.2 x.1 s1).bind fun ys s2 => newL k ys s2 else .stuck
@[simp] theorem eLcX_at (k : Bool) (w : MX) (g : MG) (tt : MT) (te : ME) (ws : List Nat) (e : En) (s : Sto) : eLcX k w g tt te ws e s = (w e s).bind fun x s1 => if x.1.length ≤ most then
  (lcL g tt te { e with sl := wipeE e.sl ws } x.2.1 x.2.2 x.1 s1).bind fun ys s2 => newL k ys s2 else .stuck := rfl
/-- range(i, j, -1) -/
def rngD (hi : Int) (n : Nat) : List Dx := (List.range n).map fun (i : Nat) => Dx.int (hi - (i : Int))
def wRngD (as : MA) : MW := fun e s => (as e s).bind fun ds s1 => match ds with
  | [.int i, .int j, .int c] => if c = -1 ∧ -(2 ^ 60) ≤ i ∧ i ≤ 2 ^ 60 ∧ -(2 ^ 60) ≤ j ∧ j ≤ 2 ^ 60 then .ok (rngD i (i - j).toNat, none) s1 else .stuck
  | _ => .stuck
@[simp] theorem wRngD_at (as : MA) (e : En) (s : Sto) : wRngD as e s = (as e s).bind fun ds s1 => match ds with
  | [.int i, .int j, .int c] => if c = -1 ∧ -(2 ^ 60) ≤ i ∧ i ≤ 2 ^ 60 ∧ -(2 ^ 60) ≤ j ∧ j ≤ 2 ^ 60 then .ok (rngD i (i - j).toNat, none) s1 else .stuck
  | _ => .stuck := rfl
@[simp] theorem cellOf_lst (xs : List Dx) (s : Sto) : cellOf s (.lst xs) = some (xs, none) := rfl
@[simp] theorem cellOf_fro (xs : List Dx) (s : Sto) : cellOf s (.fro xs) = some (xs, none) := rfl
@[simp] theorem cellOf_cell (n : Nat) (s : Sto) : cellOf s (.cell n) = (match s[n]? with | some (.lst xs) => some (xs, some n) | _ => none) := rfl
/-- o.replace(y, z), both written -/
def eRepl (o : ME) (y z : Tx) : ME := fun e s => (o e s).bind fun x s1 => match x with
  | .str t => if t.length ≤ most then .ok (.str (joinT z (splT y 0 [] t))) s1 else .stuck
  | _ => .stuck
@[simp] theorem eRepl_at (o : ME) (y z : Tx) (e : En) (s : Sto) : eRepl o y z e s = (o e s).bind fun x s1 => match x with
  | .str t => if t.length ≤ most then .ok (.str (joinT z (splT y 0 [] t))) s1 else .stuck
  | _ => .stuck := rfl
def up1 (c : Nat) : Nat := if 97 ≤ c ∧ c ≤ 122 then c - 32 else c
/-- o.upper() -/
def eUp (o : ME) : ME := fun e s => (o e s).bind fun x s1 => match x with
  | .str t => if t.length ≤ most ∧ (t.all fun c => decide (c < 128)) = true then .ok (.str (t.map up1)) s1 else .stuck
  | _ => .stuck
@[simp] theorem eUp_at (o : ME) (e : En) (s : Sto) : eUp o e s = (o e s).bind fun x s1 => match x with
  | .str t => if t.length ≤ most ∧ (t.all fun c => decide (c < 128)) = true then .ok (.str (t.map up1)) s1 else .stuck
  | _ => .stuck := rfl
/-! ## defs -/
@[simp] def env0 (n : Nat) (ds : List Dx) : List (Option Dx) := ds.map some ++ List.replicate (n - ds.length) none
def mkF (k n : Nat) (b : MS) : MF := fun ds s => if ds.length = k then (match b ⟨env0 n ds, [], none⟩ s with
  | .nx _ s => .ok .non s
  | .rt v s => .ok v s
  | .exc C f _ s => .exc C f s
  | _ => .stuck) else .stuck
@[simp] theorem mkF_at (k n : Nat) (b : MS) (ds : List Dx) (s : Sto) : mkF k n b ds s = if ds.length = k then (match b ⟨env0 n ds, [], none⟩ s with
  | .nx _ s => .ok .non s
  | .rt v s => .ok v s
  | .exc C f _ s => .exc C f s
  | _ => .stuck) else .stuck := rfl
/-- an __init__: slot 0 is the object's -/
def mkI (k n : Nat) (b : MS) : MI := fun ds s => if ds.length + 1 = k then (match b ⟨none :: env0 (n - 1) ds, [], none⟩ s with
  | .nx e s => .ok e.me s
  | .exc C f _ s => .exc C f s
  | _ => .stuck) else .stuck
@[simp] theorem mkI_at (k n : Nat) (b : MS) (ds : List Dx) (s : Sto) : mkI k n b ds s = if ds.length + 1 = k then (match b ⟨none :: env0 (n - 1) ds, [], none⟩ s with
  | .nx e s => .ok e.me s
  | .exc C f _ s => .exc C f s
  | _ => .stuck) else .stuck := rfl
/-! ## the operators at data known -/
@[simp] theorem addD_ii (i j : Int) (s : Sto) : addD (.int i) (.int j) s = .ok (.int (i + j)) s := rfl
@[simp] theorem addD_ss (a b : Tx) (s : Sto) : addD (.str a) (.str b) s = if a.length + b.length ≤ most then .ok (.str (a ++ b)) s else .stuck := rfl
@[simp] theorem addD_ll (a b : List Dx) (s : Sto) : addD (.lst a) (.lst b) s = if a.length + b.length ≤ most then .ok (.lst (a ++ b)) s else .stuck := rfl
@[simp] theorem addD_cl (n : Nat) (b : List Dx) (s : Sto) : addD (.cell n) (.lst b) s = (match s[n]? with | some (.lst a) => if a.length + b.length ≤ most then .ok (.lst (a ++ b)) s else .stuck | _ => .stuck) := by unfold addD asM; cases h : s[n]? with
  | none => simp [h, asM]
  | some c => cases c <;> simp [h, asM]
@[simp] theorem addD_lc (n : Nat) (a : List Dx) (s : Sto) : addD (.lst a) (.cell n) s = (match s[n]? with | some (.lst b) => if a.length + b.length ≤ most then .ok (.lst (a ++ b)) s else .stuck | _ => .stuck) := by unfold addD asM; cases h : s[n]? with
  | none => simp [h, asM]
  | some c => cases c <;> simp [h, asM]
@[simp] theorem addD_cc (n m : Nat) (s : Sto) : addD (.cell n) (.cell m) s = (match asM s (.cell n), asM s (.cell m) with | some a, some b => if a.length + b.length ≤ most then .ok (.lst (a ++ b)) s else .stuck | _, _ => .stuck) := rfl
@[simp] theorem addD_tt (x y : Dx) (a b : List Dx) (s : Sto) : addD (.tup (x :: a)) (.tup (y :: b)) s = if (x :: a).length + (y :: b).length ≤ most then .ok (.tup ((x :: a) ++ (y :: b))) s else .stuck := rfl
@[simp] theorem subD_ii (i j : Int) (s : Sto) : subD (.int i) (.int j) s = .ok (.int (i - j)) s := rfl
@[simp] theorem addI_ii (i j : Int) (s : Sto) : addI (.int i) (.int j) s = .ok (.int (i + j)) s := rfl
@[simp] theorem B64_iff (i : Int) : B64 i ↔ (-18446744073709551616 < i ∧ i < 18446744073709551616) := Iff.rfl
@[simp] theorem mulD_ii (i j : Int) (s : Sto) : mulD (.int i) (.int j) s = if B64 i ∨ B64 j then .ok (.int (i * j)) s else .stuck := rfl
@[simp] theorem mulD_si (a : Tx) (j : Int) (s : Sto) : mulD (.str a) (.int j) s = if 0 ≤ j ∧ j ≤ 100 ∧ a.length ≤ 100 then .ok (.str (List.replicate j.toNat a).flatten) s else .stuck := rfl
@[simp] theorem mulD_li (a : List Dx) (j : Int) (s : Sto) : mulD (.lst a) (.int j) s = if 0 ≤ j ∧ j ≤ 10000 ∧ a.length ≤ 100 then .ok (.lst (List.replicate j.toNat a).flatten) s else .stuck := rfl
@[simp] theorem modD_ii (i j : Int) (s : Sto) : modD (.int i) (.int j) s = if 0 < j then .ok (.int (i % j)) s else .stuck := rfl
@[simp] theorem divD_ii (i j : Int) (s : Sto) : divD (.int i) (.int j) s = if 0 < j ∧ j < 18446744073709551616 then .ok (.int (i / j)) s else .stuck := rfl
@[simp] theorem negD_i (i : Int) (s : Sto) : negD (.int i) s = .ok (.int (-i)) s := rfl
@[simp] theorem cmpD_ii (p : Int → Int → Bool) (i j : Int) (s : Sto) : cmpD p (.int i) (.int j) s = .ok (.bl (p i j)) s := rfl
@[simp] theorem eqD_ii (i j : Int) (s : Sto) : eqD (.int i) (.int j) s = .ok (.bl (decide (i = j))) s := rfl
@[simp] theorem eqD_ss (a b : Tx) (s : Sto) : eqD (.str a) (.str b) s = .ok (.bl (decide (a = b))) s := rfl
@[simp] theorem eqD_bb (a b : Bool) (s : Sto) : eqD (.bl a) (.bl b) s = .ok (.bl ((a == b))) s := rfl
@[simp] theorem eqD_n_i  (i2 : Int) (s : Sto) : eqD .non (.int i2) s = .ok (.bl false) s := rfl
@[simp] theorem eqD_n_b  (b2 : Bool) (s : Sto) : eqD .non (.bl b2) s = .ok (.bl false) s := rfl
@[simp] theorem eqD_n_s  (z2 : Tx) (s : Sto) : eqD .non (.str z2) s = .ok (.bl false) s := rfl
@[simp] theorem eqD_i_n (i : Int)  (s : Sto) : eqD (.int i) .non s = .ok (.bl false) s := rfl
@[simp] theorem eqD_i_s (i : Int) (z2 : Tx) (s : Sto) : eqD (.int i) (.str z2) s = .ok (.bl false) s := rfl
@[simp] theorem eqD_b_n (b : Bool)  (s : Sto) : eqD (.bl b) .non s = .ok (.bl false) s := rfl
@[simp] theorem eqD_b_s (b : Bool) (z2 : Tx) (s : Sto) : eqD (.bl b) (.str z2) s = .ok (.bl false) s := rfl
@[simp] theorem eqD_s_n (z : Tx)  (s : Sto) : eqD (.str z) .non s = .ok (.bl false) s := rfl
@[simp] theorem eqD_s_i (z : Tx) (i2 : Int) (s : Sto) : eqD (.str z) (.int i2) s = .ok (.bl false) s := rfl
@[simp] theorem eqD_s_b (z : Tx) (b2 : Bool) (s : Sto) : eqD (.str z) (.bl b2) s = .ok (.bl false) s := rfl
@[simp] theorem eqD_nn (s : Sto) : eqD .non .non s = .ok (.bl true) s := rfl
@[simp] theorem eqD_ib (i : Int) (b : Bool) (s : Sto) : eqD (.int i) (.bl b) s = .ok (.bl ((i == (if b then 1 else 0)))) s := rfl
@[simp] theorem eqD_bi (i : Int) (b : Bool) (s : Sto) : eqD (.bl b) (.int i) s = .ok (.bl (((if b then 1 else 0) == i))) s := rfl
@[simp] theorem neD_ii (i j : Int) (s : Sto) : neD (.int i) (.int j) s = .ok (.bl (!decide (i = j))) s := rfl
@[simp] theorem neD_ss (a b : Tx) (s : Sto) : neD (.str a) (.str b) s = .ok (.bl (!decide (a = b))) s := rfl
@[simp] theorem neD_bb (a b : Bool) (s : Sto) : neD (.bl a) (.bl b) s = .ok (.bl (!(a == b))) s := rfl
@[simp] theorem neD_n_i  (i2 : Int) (s : Sto) : neD .non (.int i2) s = .ok (.bl true) s := rfl
@[simp] theorem neD_n_b  (b2 : Bool) (s : Sto) : neD .non (.bl b2) s = .ok (.bl true) s := rfl
@[simp] theorem neD_n_s  (z2 : Tx) (s : Sto) : neD .non (.str z2) s = .ok (.bl true) s := rfl
@[simp] theorem neD_i_n (i : Int)  (s : Sto) : neD (.int i) .non s = .ok (.bl true) s := rfl
@[simp] theorem neD_i_s (i : Int) (z2 : Tx) (s : Sto) : neD (.int i) (.str z2) s = .ok (.bl true) s := rfl
@[simp] theorem neD_b_n (b : Bool)  (s : Sto) : neD (.bl b) .non s = .ok (.bl true) s := rfl
@[simp] theorem neD_b_s (b : Bool) (z2 : Tx) (s : Sto) : neD (.bl b) (.str z2) s = .ok (.bl true) s := rfl
@[simp] theorem neD_s_n (z : Tx)  (s : Sto) : neD (.str z) .non s = .ok (.bl true) s := rfl
@[simp] theorem neD_s_i (z : Tx) (i2 : Int) (s : Sto) : neD (.str z) (.int i2) s = .ok (.bl true) s := rfl
@[simp] theorem neD_s_b (z : Tx) (b2 : Bool) (s : Sto) : neD (.str z) (.bl b2) s = .ok (.bl true) s := rfl
@[simp] theorem neD_nn (s : Sto) : neD .non .non s = .ok (.bl false) s := rfl
@[simp] theorem neD_ib (i : Int) (b : Bool) (s : Sto) : neD (.int i) (.bl b) s = .ok (.bl (!(i == (if b then 1 else 0)))) s := rfl
@[simp] theorem neD_bi (i : Int) (b : Bool) (s : Sto) : neD (.bl b) (.int i) s = .ok (.bl (!((if b then 1 else 0) == i))) s := rfl
@[simp] theorem isND_int (i : Int) (s : Sto) : isND (.int i) .non s = .ok (.bl false) s := rfl
@[simp] theorem isND_bl (b : Bool) (s : Sto) : isND (.bl b) .non s = .ok (.bl false) s := rfl
@[simp] theorem isND_str (z : Tx) (s : Sto) : isND (.str z) .non s = .ok (.bl false) s := rfl
@[simp] theorem isND_tup (xs : List Dx) (s : Sto) : isND (.tup xs) .non s = .ok (.bl false) s := rfl
@[simp] theorem isND_lst (xs : List Dx) (s : Sto) : isND (.lst xs) .non s = .ok (.bl false) s := rfl
@[simp] theorem isND_fro (xs : List Dx) (s : Sto) : isND (.fro xs) .non s = .ok (.bl false) s := rfl
@[simp] theorem isND_dct  (s : Sto) : isND .dct .non s = .ok (.bl false) s := rfl
@[simp] theorem isND_obj (C : String) (fs : Fs) (s : Sto) : isND (.obj C fs) .non s = .ok (.bl false) s := rfl
@[simp] theorem isND_cell (n : Nat) (s : Sto) : isND (.cell n) .non s = .ok (.bl false) s := rfl
@[simp] theorem isND_non (s : Sto) : isND .non .non s = .ok (.bl true) s := rfl
@[simp] theorem notND_int (i : Int) (s : Sto) : notND (.int i) .non s = .ok (.bl true) s := rfl
@[simp] theorem notND_bl (b : Bool) (s : Sto) : notND (.bl b) .non s = .ok (.bl true) s := rfl
@[simp] theorem notND_str (z : Tx) (s : Sto) : notND (.str z) .non s = .ok (.bl true) s := rfl
@[simp] theorem notND_tup (xs : List Dx) (s : Sto) : notND (.tup xs) .non s = .ok (.bl true) s := rfl
@[simp] theorem notND_lst (xs : List Dx) (s : Sto) : notND (.lst xs) .non s = .ok (.bl true) s := rfl
@[simp] theorem notND_fro (xs : List Dx) (s : Sto) : notND (.fro xs) .non s = .ok (.bl true) s := rfl
@[simp] theorem notND_dct  (s : Sto) : notND .dct .non s = .ok (.bl true) s := rfl
@[simp] theorem notND_obj (C : String) (fs : Fs) (s : Sto) : notND (.obj C fs) .non s = .ok (.bl true) s := rfl
@[simp] theorem notND_cell (n : Nat) (s : Sto) : notND (.cell n) .non s = .ok (.bl true) s := rfl
@[simp] theorem notND_non (s : Sto) : notND .non .non s = .ok (.bl false) s := rfl
@[simp] theorem isBD_bb (a b : Bool) (s : Sto) : isBD (.bl a) (.bl b) s = .ok (.bl (a == b)) s := rfl
@[simp] theorem inD_sc (neg : Bool) (c : Nat) (z : Tx) (s : Sto) : inD neg (.str [c]) (.str z) s = .ok (.bl (neg != decide (c ∈ z))) s := rfl
@[simp] theorem inD_tup (neg : Bool) (x : Dx) (ys : List Dx) (s : Sto) : inD neg x (.tup ys) s = if (flat x && ys.all flat) = true then .ok (.bl (neg != ys.any fun y => eqv y x)) s else .stuck := rfl
@[simp] theorem inD_lst (neg : Bool) (x : Dx) (ys : List Dx) (s : Sto) : inD neg x (.lst ys) s = if (flat x && ys.all flat) = true then .ok (.bl (neg != ys.any fun y => eqv y x)) s else .stuck := rfl
@[simp] theorem inD_fro (neg : Bool) (x : Dx) (ys : List Dx) (s : Sto) : inD neg x (.fro ys) s = if (flat x && ys.all flat) = true then .ok (.bl (neg != ys.any fun y => eqv y x)) s else .stuck := rfl
@[simp] theorem inD_cell (neg : Bool) (x : Dx) (n : Nat) (s : Sto) : inD neg x (.cell n) s = (match asQ s (.cell n) with | some ys => if (flat x && ys.all flat) = true then .ok (.bl (neg != ys.any fun y => eqv y x)) s else .stuck | none => .stuck) := rfl
@[simp] theorem ixD_tup (xs : List Dx) (i : Int) (s : Sto) : ixD (.tup xs) (.int i) s = (match pyIx xs i with | some d => .ok d s | none => .stuck) := rfl
@[simp] theorem ixD_lst (xs : List Dx) (i : Int) (s : Sto) : ixD (.lst xs) (.int i) s = (match pyIx xs i with | some d => .ok d s | none => .stuck) := rfl
@[simp] theorem ixD_fro (xs : List Dx) (i : Int) (s : Sto) : ixD (.fro xs) (.int i) s = (match pyIx xs i with | some d => .ok d s | none => .stuck) := rfl
@[simp] theorem ixD_cell (n : Nat) (i : Int) (s : Sto) : ixD (.cell n) (.int i) s = (match asQ s (.cell n) with | some xs => (match pyIx xs i with | some d => .ok d s | none => .stuck) | none => .stuck) := rfl
@[simp] theorem ixD_str (z : Tx) (i : Int) (s : Sto) : ixD (.str z) (.int i) s = (match pyIx z i with | some c => if z.length ≤ most then .ok (.str [c]) s else .stuck | none => .stuck) := rfl
@[simp] theorem slD_str (z : Tx) (lo hi : Option Int) (s : Sto) : slD (.str z) lo hi s = if z.length ≤ most then .ok (.str (cut z lo hi)) s else .stuck := rfl
@[simp] theorem slD_tup (xs : List Dx) (lo hi : Option Int) (s : Sto) : slD (.tup xs) lo hi s = if sIx xs.length 0 lo = 0 ∧ sIx xs.length xs.length hi = xs.length then .stuck else .ok (.tup (cut xs lo hi)) s := rfl
@[simp] theorem slD_lst (xs : List Dx) (lo hi : Option Int) (s : Sto) : slD (.lst xs) lo hi s = .ok (.lst (cut xs lo hi)) s := rfl
@[simp] theorem slD_fro (xs : List Dx) (lo hi : Option Int) (s : Sto) : slD (.fro xs) lo hi s = .ok (.lst (cut xs lo hi)) s := rfl
@[simp] theorem slD_cell (n : Nat) (lo hi : Option Int) (s : Sto) : slD (.cell n) lo hi s = (match asL s (.cell n) with | some xs => .ok (.lst (cut xs lo hi)) s | none => .stuck) := rfl
@[simp] theorem lenD_str (z : Tx) (s : Sto) : lenD [.str z] s = if z.length ≤ most then .ok (.int z.length) s else .stuck := rfl
@[simp] theorem lenD_tup (xs : List Dx) (s : Sto) : lenD [.tup xs] s = .ok (.int xs.length) s := rfl
@[simp] theorem lenD_lst (xs : List Dx) (s : Sto) : lenD [.lst xs] s = .ok (.int xs.length) s := rfl
@[simp] theorem lenD_fro (xs : List Dx) (s : Sto) : lenD [.fro xs] s = .ok (.int xs.length) s := rfl
@[simp] theorem lenD_cell (n : Nat) (s : Sto) : lenD [.cell n] s = (match asQ s (.cell n) with | some xs => .ok (.int xs.length) s | none => .stuck) := rfl
@[simp] theorem min2D_ii (i j : Int) (s : Sto) : min2D [.int i, .int j] s = .ok (.int (if j < i then j else i)) s := rfl
@[simp] theorem max2D_ii (i j : Int) (s : Sto) : max2D [.int i, .int j] s = .ok (.int (if i < j then j else i)) s := rfl
@[simp] theorem divmodD_ii (i j : Int) (s : Sto) : divmodD [.int i, .int j] s = if 0 < j ∧ j < 1073741824 then .ok (.tup [.int (i / j), .int (i % j)]) s else .stuck := rfl
@[simp] theorem toIntD_i (i : Int) (s : Sto) : toIntD [.int i] s = .ok (.int i) s := rfl
@[simp] theorem toIntD_b (b : Bool) (s : Sto) : toIntD [.bl b] s = .ok (.int (if b then 1 else 0)) s := rfl
@[simp] theorem strD_i (i : Int) (s : Sto) : strD [.int i] s = if -(10 ^ 100) ≤ i ∧ i ≤ 10 ^ 100 then .ok (.str (txI i)) s else .stuck := rfl
@[simp] theorem allD_lst (xs : List Dx) (s : Sto) : allD [.lst xs] s = (match dBools xs with | some l => .ok (.bl (l.all id)) s | none => .stuck) := rfl
@[simp] theorem allD_fro (xs : List Dx) (s : Sto) : allD [.fro xs] s = (match dBools xs with | some l => .ok (.bl (l.all id)) s | none => .stuck) := rfl
@[simp] theorem allD_cell (n : Nat) (s : Sto) : allD [.cell n] s = (match (asL s (.cell n)).bind dBools with | some l => .ok (.bl (l.all id)) s | none => .stuck) := rfl
@[simp] theorem anyD_lst (xs : List Dx) (s : Sto) : anyD [.lst xs] s = (match dBools xs with | some l => .ok (.bl (l.any id)) s | none => .stuck) := rfl
@[simp] theorem anyD_fro (xs : List Dx) (s : Sto) : anyD [.fro xs] s = (match dBools xs with | some l => .ok (.bl (l.any id)) s | none => .stuck) := rfl
@[simp] theorem anyD_cell (n : Nat) (s : Sto) : anyD [.cell n] s = (match (asL s (.cell n)).bind dBools with | some l => .ok (.bl (l.any id)) s | none => .stuck) := rfl
@[simp] theorem sumD_lst (xs : List Dx) (s : Sto) : sumD [.lst xs] s = (match dInts xs with | some l => .ok (.int l.sum) s | none => .stuck) := rfl
@[simp] theorem sumD_fro (xs : List Dx) (s : Sto) : sumD [.fro xs] s = (match dInts xs with | some l => .ok (.int l.sum) s | none => .stuck) := rfl
@[simp] theorem sumD_cell (n : Nat) (s : Sto) : sumD [.cell n] s = (match (asL s (.cell n)).bind dInts with | some l => .ok (.int l.sum) s | none => .stuck) := rfl
@[simp] theorem minD_lst (xs : List Dx) (s : Sto) : minD [.lst xs] s = (match dInts xs with | some (i :: l) => .ok (.int (leastOf i l)) s | _ => .stuck) := rfl
@[simp] theorem minD_fro (xs : List Dx) (s : Sto) : minD [.fro xs] s = (match dInts xs with | some (i :: l) => .ok (.int (leastOf i l)) s | _ => .stuck) := rfl
@[simp] theorem listD_tup (k : Bool) (xs : List Dx) (s : Sto) : listD k [.tup xs] s = newL k xs s := rfl
@[simp] theorem listD_lst (k : Bool) (xs : List Dx) (s : Sto) : listD k [.lst xs] s = newL k xs s := rfl
@[simp] theorem listD_fro (k : Bool) (xs : List Dx) (s : Sto) : listD k [.fro xs] s = newL k xs s := rfl
@[simp] theorem listD_cell (k : Bool) (n : Nat) (s : Sto) : listD k [.cell n] s = (match asQ s (.cell n) with | some xs => newL k xs s | none => .stuck) := rfl
@[simp] theorem tupD_tup (xs : List Dx) (s : Sto) : tupD [.tup xs] s = .ok (.tup xs) s := rfl
@[simp] theorem tupD_lst (xs : List Dx) (s : Sto) : tupD [.lst xs] s = .ok (.tup xs) s := rfl
@[simp] theorem tupD_fro (xs : List Dx) (s : Sto) : tupD [.fro xs] s = .ok (.tup xs) s := rfl
@[simp] theorem tupD_cell (n : Nat) (s : Sto) : tupD [.cell n] s = (match asL s (.cell n) with | some xs => .ok (.tup xs) s | none => .stuck) := rfl
@[simp] theorem lenSetD_lst (xs : List Dx) (s : Sto) : lenSetD [.lst xs] s = (match dStrs xs with | some l => if l.length ≤ 2000 then .ok (.int (unlike l)) s else .stuck | none => .stuck) := rfl
@[simp] theorem lenSetD_fro (xs : List Dx) (s : Sto) : lenSetD [.fro xs] s = (match dStrs xs with | some l => if l.length ≤ 2000 then .ok (.int (unlike l)) s else .stuck | none => .stuck) := rfl
@[simp] theorem lenSetD_cell (n : Nat) (s : Sto) : lenSetD [.cell n] s = (match (asL s (.cell n)).bind dStrs with | some l => if l.length ≤ 2000 then .ok (.int (unlike l)) s else .stuck | none => .stuck) := rfl
@[simp] theorem isiD_2 (d c : Dx) (s : Sto) : isiD [d, c] s = (match isD1 s d c with | some b => .ok (.bl b) s | none => .stuck) := rfl
@[simp] theorem pyIx_0 {α : Type} (xs : List α) : pyIx xs 0 = xs[0]? := rfl
@[simp] theorem pyIx_1 {α : Type} (xs : List α) : pyIx xs 1 = xs[1]? := rfl
@[simp] theorem pyIx_2 {α : Type} (xs : List α) : pyIx xs 2 = xs[2]? := rfl
@[simp] theorem pyIx_3 {α : Type} (xs : List α) : pyIx xs 3 = xs[3]? := rfl
@[simp] theorem pyIx_4 {α : Type} (xs : List α) : pyIx xs 4 = xs[4]? := rfl
@[simp] theorem pyIx_5 {α : Type} (xs : List α) : pyIx xs 5 = xs[5]? := rfl
@[simp] theorem pyIx_6 {α : Type} (xs : List α) : pyIx xs 6 = xs[6]? := rfl
@[simp] theorem pyIx_7 {α : Type} (xs : List α) : pyIx xs 7 = xs[7]? := rfl
@[simp] theorem pyIx_8 {α : Type} (xs : List α) : pyIx xs 8 = xs[8]? := rfl
@[simp] theorem pyIx_9 {α : Type} (xs : List α) : pyIx xs 9 = xs[9]? := rfl
@[simp] theorem asL_int (i : Int) (s : Sto) : asL s (.int i) = none := rfl
@[simp] theorem asL_bl (b : Bool) (s : Sto) : asL s (.bl b) = none := rfl
@[simp] theorem asL_non  (s : Sto) : asL s .non = none := rfl
@[simp] theorem asL_str (z : Tx) (s : Sto) : asL s (.str z) = none := rfl
@[simp] theorem asL_tup (xs : List Dx) (s : Sto) : asL s (.tup xs) = none := rfl
@[simp] theorem asL_lst (xs : List Dx) (s : Sto) : asL s (.lst xs) = some xs := rfl
@[simp] theorem asL_fro (xs : List Dx) (s : Sto) : asL s (.fro xs) = some xs := rfl
@[simp] theorem asL_dct  (s : Sto) : asL s .dct = none := rfl
@[simp] theorem asL_obj (C : String) (fs : Fs) (s : Sto) : asL s (.obj C fs) = none := rfl
@[simp] theorem asL_cell (n : Nat) (s : Sto) : asL s (.cell n) = (match s[n]? with | some (.lst xs) => some xs | _ => none) := rfl
@[simp] theorem asL_cls (C : String) (s : Sto) : asL s (.cls C) = none := rfl
@[simp] theorem asL_ty (b : String) (s : Sto) : asL s (.ty b) = none := rfl
@[simp] theorem asM_int (i : Int) (s : Sto) : asM s (.int i) = none := rfl
@[simp] theorem asM_bl (b : Bool) (s : Sto) : asM s (.bl b) = none := rfl
@[simp] theorem asM_non  (s : Sto) : asM s .non = none := rfl
@[simp] theorem asM_str (z : Tx) (s : Sto) : asM s (.str z) = none := rfl
@[simp] theorem asM_tup (xs : List Dx) (s : Sto) : asM s (.tup xs) = none := rfl
@[simp] theorem asM_lst (xs : List Dx) (s : Sto) : asM s (.lst xs) = some xs := rfl
@[simp] theorem asM_fro (xs : List Dx) (s : Sto) : asM s (.fro xs) = none := rfl
@[simp] theorem asM_dct  (s : Sto) : asM s .dct = none := rfl
@[simp] theorem asM_obj (C : String) (fs : Fs) (s : Sto) : asM s (.obj C fs) = none := rfl
@[simp] theorem asM_cell (n : Nat) (s : Sto) : asM s (.cell n) = (match s[n]? with | some (.lst xs) => some xs | _ => none) := rfl
@[simp] theorem asM_cls (C : String) (s : Sto) : asM s (.cls C) = none := rfl
@[simp] theorem asM_ty (b : String) (s : Sto) : asM s (.ty b) = none := rfl
@[simp] theorem asQ_int (i : Int) (s : Sto) : asQ s (.int i) = none := rfl
@[simp] theorem asQ_bl (b : Bool) (s : Sto) : asQ s (.bl b) = none := rfl
@[simp] theorem asQ_non  (s : Sto) : asQ s .non = none := rfl
@[simp] theorem asQ_str (z : Tx) (s : Sto) : asQ s (.str z) = none := rfl
@[simp] theorem asQ_tup (xs : List Dx) (s : Sto) : asQ s (.tup xs) = some xs := rfl
@[simp] theorem asQ_lst (xs : List Dx) (s : Sto) : asQ s (.lst xs) = some xs := rfl
@[simp] theorem asQ_fro (xs : List Dx) (s : Sto) : asQ s (.fro xs) = some xs := rfl
@[simp] theorem asQ_dct  (s : Sto) : asQ s .dct = none := rfl
@[simp] theorem asQ_obj (C : String) (fs : Fs) (s : Sto) : asQ s (.obj C fs) = none := rfl
@[simp] theorem asQ_cell (n : Nat) (s : Sto) : asQ s (.cell n) = (match s[n]? with | some (.lst xs) => some xs | _ => none) := rfl
@[simp] theorem asQ_cls (C : String) (s : Sto) : asQ s (.cls C) = none := rfl
@[simp] theorem asQ_ty (b : String) (s : Sto) : asQ s (.ty b) = none := rfl
@[simp] theorem asO_int (i : Int) (s : Sto) : asO s (.int i) = none := rfl
@[simp] theorem asO_bl (b : Bool) (s : Sto) : asO s (.bl b) = none := rfl
@[simp] theorem asO_non  (s : Sto) : asO s .non = none := rfl
@[simp] theorem asO_str (z : Tx) (s : Sto) : asO s (.str z) = none := rfl
@[simp] theorem asO_tup (xs : List Dx) (s : Sto) : asO s (.tup xs) = none := rfl
@[simp] theorem asO_lst (xs : List Dx) (s : Sto) : asO s (.lst xs) = none := rfl
@[simp] theorem asO_fro (xs : List Dx) (s : Sto) : asO s (.fro xs) = none := rfl
@[simp] theorem asO_dct  (s : Sto) : asO s .dct = none := rfl
@[simp] theorem asO_obj (C : String) (fs : Fs) (s : Sto) : asO s (.obj C fs) = some (C, fs) := rfl
@[simp] theorem asO_cell (n : Nat) (s : Sto) : asO s (.cell n) = (match s[n]? with | some (.obj C fs) => some (C, fs) | _ => none) := rfl
@[simp] theorem asO_cls (C : String) (s : Sto) : asO s (.cls C) = none := rfl
@[simp] theorem asO_ty (b : String) (s : Sto) : asO s (.ty b) = none := rfl
@[simp] theorem truD_int (i : Int) (s : Sto) : truD s (.int i) = some (i != 0) := rfl
@[simp] theorem truD_bl (b : Bool) (s : Sto) : truD s (.bl b) = some b := rfl
@[simp] theorem truD_non  (s : Sto) : truD s .non = some false := rfl
@[simp] theorem truD_str (z : Tx) (s : Sto) : truD s (.str z) = (if z.length ≤ most then some (!z.isEmpty) else none) := rfl
@[simp] theorem truD_tup (xs : List Dx) (s : Sto) : truD s (.tup xs) = some (!xs.isEmpty) := rfl
@[simp] theorem truD_lst (xs : List Dx) (s : Sto) : truD s (.lst xs) = some (!xs.isEmpty) := rfl
@[simp] theorem truD_fro (xs : List Dx) (s : Sto) : truD s (.fro xs) = some (!xs.isEmpty) := rfl
@[simp] theorem truD_dct  (s : Sto) : truD s .dct = none := rfl
@[simp] theorem truD_obj (C : String) (fs : Fs) (s : Sto) : truD s (.obj C fs) = none := rfl
@[simp] theorem truD_cell (n : Nat) (s : Sto) : truD s (.cell n) = Option.map (fun xs => !xs.isEmpty) (asQ s (.cell n)) := rfl
@[simp] theorem truD_cls (C : String) (s : Sto) : truD s (.cls C) = none := rfl
@[simp] theorem truD_ty (b : String) (s : Sto) : truD s (.ty b) = none := rfl
@[simp] theorem res_int (i : Int) (s : Sto) : res s (.int i) = (.int i) := rfl
@[simp] theorem res_bl (b : Bool) (s : Sto) : res s (.bl b) = (.bl b) := rfl
@[simp] theorem res_non  (s : Sto) : res s .non = .non := rfl
@[simp] theorem res_str (z : Tx) (s : Sto) : res s (.str z) = (.str z) := rfl
@[simp] theorem res_tup (xs : List Dx) (s : Sto) : res s (.tup xs) = (.tup xs) := rfl
@[simp] theorem res_lst (xs : List Dx) (s : Sto) : res s (.lst xs) = (.lst xs) := rfl
@[simp] theorem res_fro (xs : List Dx) (s : Sto) : res s (.fro xs) = (.fro xs) := rfl
@[simp] theorem res_dct  (s : Sto) : res s .dct = .dct := rfl
@[simp] theorem res_obj (C : String) (fs : Fs) (s : Sto) : res s (.obj C fs) = (.obj C fs) := rfl
@[simp] theorem res_cell (n : Nat) (s : Sto) : res s (.cell n) = (match s[n]? with | some (.lst xs) => .lst xs | _ => .cell n) := rfl
@[simp] theorem res_cls (C : String) (s : Sto) : res s (.cls C) = (.cls C) := rfl
@[simp] theorem res_ty (b : String) (s : Sto) : res s (.ty b) = (.ty b) := rfl
@[simp] theorem isTy_int (i : Int) (t : String) (s : Sto) : isTy s t (.int i) = some (decide (t = "int")) := rfl
@[simp] theorem isCl_int (i : Int) (X : String) (s : Sto) : isCl s X (.int i) = some false := rfl
@[simp] theorem isTy_bl (b : Bool) (t : String) (s : Sto) : isTy s t (.bl b) = some (decide (t = "bool") || decide (t = "int")) := rfl
@[simp] theorem isCl_bl (b : Bool) (X : String) (s : Sto) : isCl s X (.bl b) = some false := rfl
@[simp] theorem isTy_non  (t : String) (s : Sto) : isTy s t .non = some (decide (t = "NoneType")) := rfl
@[simp] theorem isCl_non  (X : String) (s : Sto) : isCl s X .non = some false := rfl
@[simp] theorem isTy_str (z : Tx) (t : String) (s : Sto) : isTy s t (.str z) = some (decide (t = "str")) := rfl
@[simp] theorem isCl_str (z : Tx) (X : String) (s : Sto) : isCl s X (.str z) = some false := rfl
@[simp] theorem isTy_tup (xs : List Dx) (t : String) (s : Sto) : isTy s t (.tup xs) = some (decide (t = "tuple")) := rfl
@[simp] theorem isCl_tup (xs : List Dx) (X : String) (s : Sto) : isCl s X (.tup xs) = some false := rfl
@[simp] theorem isTy_lst (xs : List Dx) (t : String) (s : Sto) : isTy s t (.lst xs) = some (decide (t = "list")) := rfl
@[simp] theorem isCl_lst (xs : List Dx) (X : String) (s : Sto) : isCl s X (.lst xs) = some false := rfl
@[simp] theorem isTy_fro (xs : List Dx) (t : String) (s : Sto) : isTy s t (.fro xs) = none := rfl
@[simp] theorem isCl_fro (xs : List Dx) (X : String) (s : Sto) : isCl s X (.fro xs) = none := rfl
@[simp] theorem isTy_dct  (t : String) (s : Sto) : isTy s t .dct = some (decide (t = "dict")) := rfl
@[simp] theorem isCl_dct  (X : String) (s : Sto) : isCl s X .dct = some false := rfl
@[simp] theorem isTy_obj (C : String) (fs : Fs) (t : String) (s : Sto) : isTy s t (.obj C fs) = some false := rfl
@[simp] theorem isCl_obj (C : String) (fs : Fs) (X : String) (s : Sto) : isCl s X (.obj C fs) = some (isSub C X) := rfl
@[simp] theorem isTy_cell (n : Nat) (t : String) (s : Sto) : isTy s t (.cell n) = (match s[n]? with | some (.lst _) => some (decide (t = "list")) | some (.obj _ _) => some false | _ => none) := rfl
@[simp] theorem isCl_cell (n : Nat) (X : String) (s : Sto) : isCl s X (.cell n) = (match s[n]? with | some (.lst _) => some false | some (.obj C _) => some (isSub C X) | _ => none) := rfl
@[simp] theorem isTy_cls (C : String) (t : String) (s : Sto) : isTy s t (.cls C) = none := rfl
@[simp] theorem isCl_cls (C : String) (X : String) (s : Sto) : isCl s X (.cls C) = none := rfl
@[simp] theorem isTy_ty (b : String) (t : String) (s : Sto) : isTy s t (.ty b) = none := rfl
@[simp] theorem isCl_ty (b : String) (X : String) (s : Sto) : isCl s X (.ty b) = none := rfl
@[simp] theorem isX_cls (C X : String) : isX C (.cls X) = (if inX X = true then some (isSubX C X) else none) := rfl
@[simp] theorem isX_ty (C b : String) : isX C (.ty b) = (if b = "ValueError" then some true else none) := rfl
@[simp] theorem isD1_cls (X : String) (d : Dx) (s : Sto) : isD1 s d (.cls X) = (if inT X = true then isCl s X d else none) := rfl
@[simp] theorem isD1_ty (b : String) (d : Dx) (s : Sto) : isD1 s d (.ty b) = (if bTys.contains b = true then isTy s b d else none) := rfl
/-! ## sorted(set(xs)) -/
def insR {α : Type} [DecidableEq α] (lt : α → α → Bool) (x : α) : List α → List α
  | [] => [x]
  | y :: r => if lt x y then x :: y :: r else if x = y then y :: r else y :: insR lt x r
def sortR {α : Type} [DecidableEq α] (lt : α → α → Bool) (l : List α) : List α := l.foldr (insR lt) []
structure Lin {α : Type} (lt : α → α → Bool) : Prop where
  irr : ∀ a, lt a a = false
  tr : ∀ a b c, lt a b = true → lt b c = true → lt a c = true
  tot : ∀ a b, lt a b = false → a ≠ b → lt b a = true
section
variable {α : Type} [DecidableEq α] {lt : α → α → Bool}
theorem mem_insR {x z : α} : ∀ {l : List α}, z ∈ insR lt x l ↔ z = x ∨ z ∈ l
  | [] => by simp [insR]
  | y :: r => by
    unfold insR
    split
    · simp
    · split
      · rename_i h; subst h; simp
      · simp only [List.mem_cons, mem_insR (l := r)]
        constructor
        · rintro (h | h | h)
          · exact .inr (.inl h)
          · exact .inl h
          · exact .inr (.inr h)
        · rintro (h | h | h)
          · exact .inr (.inl h)
          · exact .inl h
          · exact .inr (.inr h)
theorem mem_sortR {z : α} : ∀ {l : List α}, z ∈ sortR lt l ↔ z ∈ l
  | [] => by simp [sortR]
  | x :: l => by
    show z ∈ insR lt x (sortR lt l) ↔ _
    rw [mem_insR, mem_sortR, List.mem_cons]
theorem srt_insR (L : Lin lt) {x : α} : ∀ {l : List α}, l.Pairwise (fun a b => lt a b = true) → (insR lt x l).Pairwise (fun a b => lt a b = true)
  | [], _ => by simp [insR]
  | y :: r, h => by
    obtain ⟨h1, h2⟩ := List.pairwise_cons.mp h
    unfold insR
    split
    · rename_i hxy
      refine List.pairwise_cons.mpr ⟨fun z hz => ?_, h⟩
      rcases List.mem_cons.mp hz with e | e
      · rw [e]; exact hxy
      · exact L.tr _ _ _ hxy (h1 z e)
    · rename_i hxy
      split
      · exact h
      · rename_i ne
        refine List.pairwise_cons.mpr ⟨fun z hz => ?_, srt_insR L h2⟩
        rcases mem_insR.mp hz with e | e
        · rw [e]; exact L.tot _ _ (by simpa using hxy) ne
        · exact h1 z e
theorem srt_sortR (L : Lin lt) : ∀ (l : List α), (sortR lt l).Pairwise (fun a b => lt a b = true)
  | [] => List.Pairwise.nil
  | _ :: l => srt_insR L (srt_sortR L l)
theorem srt_one {R : α → α → Prop} (irr : ∀ a, ¬ R a a) (tr : ∀ a b c, R a b → R b c → R a c) : ∀ {l m : List α}, l.Pairwise R → m.Pairwise R → (∀ x, x ∈ l ↔ x ∈ m) → l = m
  | [], [], _, _, _ => rfl
  | [], y :: m, _, _, h => absurd ((h y).mpr List.mem_cons_self) (by simp)
  | x :: l, [], _, _, h => absurd ((h x).mp List.mem_cons_self) (by simp)
  | x :: l, y :: m, hl, hm, h => by
    obtain ⟨a1, a2⟩ := List.pairwise_cons.mp hl
    obtain ⟨b1, b2⟩ := List.pairwise_cons.mp hm
    have e : x = y := by
      rcases List.mem_cons.mp ((h x).mp List.mem_cons_self) with e | e
      · exact e
      · rcases List.mem_cons.mp ((h y).mpr List.mem_cons_self) with k | k
        · exact k.symm
        · exact absurd (tr _ _ _ (b1 x e) (a1 y k)) (irr _)
    subst e
    rw [srt_one irr tr a2 b2 fun z => ⟨fun hz => ?_, fun hz => ?_⟩]
    · rcases List.mem_cons.mp ((h z).mp (List.mem_cons_of_mem _ hz)) with e | e
      · exact absurd (e ▸ a1 z hz) (irr _)
      · exact e
    · rcases List.mem_cons.mp ((h z).mpr (List.mem_cons_of_mem _ hz)) with e | e
      · exact absurd (e ▸ b1 z hz) (irr _)
      · exact e
end
def ltI (a b : Int) : Bool := decide (a < b)
def ltT (a b : Tx) : Bool := decide (a < b)
theorem linI : Lin ltI := ⟨fun a => by simp [ltI], fun a b c h k => by simp [ltI] at *; omega, fun a b h k => by simp [ltI] at *; omega⟩
theorem linT : Lin ltT := ⟨fun a => by simpa [ltT] using List.lt_irrefl a, fun a b c h k => by simp only [ltT, decide_eq_true_eq] at *; exact List.lt_trans h k, fun a b h k => by
  simp only [ltT, decide_eq_true_eq, decide_eq_false_iff_not] at *
  rcases Classical.em (b < a) with q | q
  · exact q
  · exact absurd (List.le_antisymm (List.not_lt.mp q) (List.not_lt.mp h)) k⟩
def sortI (l : List Int) : List Int := sortR ltI l
def sortT (l : List Tx) : List Tx := sortR ltT l
theorem mem_sortI {z : Int} {l : List Int} : z ∈ sortI l ↔ z ∈ l := mem_sortR
theorem mem_sortT {z : Tx} {l : List Tx} : z ∈ sortT l ↔ z ∈ l := mem_sortR
def sortV (xs : List Dx) : Option (List Dx) := match dInts xs with
  | some l => some ((sortI l).map Dx.int)
  | none => (dStrs xs).map fun l => (sortT l).map Dx.str
def eSortS (c : Bool) (a : ME) : ME := fun e s => (a e s).bind fun x s1 => match asL s1 x with
  | some xs => match sortV xs with
    | some ys => if xs.length ≤ 2000 then newL c ys s1 else .stuck
    | none => .stuck
  | none => .stuck
@[simp] theorem eSortS_at (c : Bool) (a : ME) (e : En) (s : Sto) : eSortS c a e s = (a e s).bind fun x s1 => match asL s1 x with
  | some xs => match sortV xs with
    | some ys => if xs.length ≤ 2000 then newL c ys s1 else .stuck
    | none => .stuck
  | none => .stuck := rfl
end Pm

namespace Ps
def tabA (K : PySem.W.Frag) (k : Nat) : PySem.Addr := match Pm.tabL[k]? with
  | some (n, none, _) => (He.cT K (PySem.Str.ofString n, none)).2
  | some (n, some c, _) => (He.cT K (PySem.Str.ofString c, some (PySem.Str.ofString n))).2
  | none => 0
end Ps
/-! # the pure readings are sound: worlds, relations, what is wanted of an outcome -/
namespace Ps
open PySem PySem.Spec PyProof.Rows L2 Vs He Pm
theorem ofS_inj {a b : String} (h : Str.ofString a = Str.ofString b) : a = b := by
  rw [Str.ofString_eq_toList, Str.ofString_eq_toList] at h
  injection h with h
  have h2 : (a.toList.map Char.toNat) = (b.toList.map Char.toNat) := by simpa using h
  exact tx_inj.mp h2
/-- a text -/
def tS (z : Tx) : Str := ⟨z.toArray⟩
theorem tS_tx (s : String) : Str.ofString s = tS (tx s) := Str.ofString_eq_toList s
theorem tS_inj {a b : Tx} (h : tS a = tS b) : a = b := by
  injection h with h
  simpa using h
theorem tS_len (z : Tx) : (tS z).length = z.length := by simp [tS, Str.length]
theorem tS_l (z : Tx) : (tS z).cps.toList = z := by simp [tS]
theorem tS_app (a b : Tx) : tS a ++ tS b = tS (a ++ b) := by
  show (⟨a.toArray ++ b.toArray⟩ : Str) = ⟨(a ++ b).toArray⟩
  simp
def okT (z : Tx) : Prop := ∀ c ∈ z, c < 0x110000
theorem okT_app {a b : Tx} (h : okT a) (k : okT b) : okT (a ++ b) := fun c hc => (List.mem_append.mp hc).elim (h c) (k c)
theorem okT_tx (s : String) : okT (tx s) := fun c hc => by
  unfold tx at hc
  obtain ⟨x, _, rfl⟩ := List.mem_map.mp hc
  have := x.valid
  unfold UInt32.isValidChar Nat.isValidChar at this
  have e : x.toNat = x.val.toNat := rfl
  omega
structure Wd where
  r : List Addr
  h : List Addr
structure Px where
  /-- the exception that a suite holds, its slot -/
  x : Option (Addr × Value × Option Addr)
  i : Nat
  /-- the object that an __init__ fills -/
  f : Option (Addr × Addr × String)
  /-- the world at the entry, of a def that gets a function just made (in slot i) -/
  an : Option (Wd × Hp × V)
def hid (l : List Addr) (H : Hp) : Hp := fun a => if a ∈ l then none else H a
theorem hid_out {l : List Addr} {H : Hp} {a : Addr} (n : a ∉ l) : hid l H a = H a := by unfold hid; rw [if_neg n]
theorem hid_some {l : List Addr} {H : Hp} {a : Addr} {o : HO} (h : hid l H a = some o) : a ∉ l ∧ H a = some o := by
  unfold hid at h
  split at h
  · cases h
  · rename_i n; exact ⟨n, h⟩
theorem hid_same {l : List Addr} {H : Hp} : Same (hid l H) H := fun a o h => (hid_some h).2
abbrev Wd.G (w : Wd) (H : Hp) : Hp := hid (w.h ++ w.r) H
mutual
inductive Rv (K : PySem.W.Frag) (r : List Addr) (G : Hp) : V → Dx → Prop
  | non : Rv K r G .non .non
  | bl (b : Bool) : Rv K r G (.bl b) (.bl b)
  | int (i : Int) : Rv K r G (.int i) (.int i)
  | str {z : Tx} (h : okT z) : Rv K r G (.str (tS z)) (.str z)
  | tup {a : Addr} {vs : List V} {ds : List Dx} (h : SqT K G a vs) (l : RvL K r G vs ds) : Rv K r G (.ref a) (.tup ds)
  | lst {a : Addr} {vs : List V} {ds : List Dx} (h : G a = some (.lst vs)) (l : RvL K r G vs ds) : Rv K r G (.ref a) (.lst ds)
  | fro {a : Addr} {vs : List V} {ds : List Dx} (h : SqL K G a vs) (l : RvL K r G vs ds) : Rv K r G (.ref a) (.fro ds)
  | dct {a : Addr} (h : G a = some (.dK [])) : Rv K r G (.ref a) .dct
  | obj {a dx : Addr} {C : String} {gs : List (Str × V)} {fs : Fs} (h : G a = some (.ins (ga K C) dx gs)) (m : inT C = true) (f : (fs.all fun q => hasF C q.1) = true) (l : RvF K r G gs fs) : Rv K r G (.ref a) (.obj C fs)
  | cell {n : Nat} {a : Addr} (h : r[n]? = some a) : Rv K r G (.ref a) (.cell n)
  | cls {C : String} : Rv K r G (.ref (ga K C)) (.cls C)
  | ty {s : String} : Rv K r G (.ty s) (.ty s)
  | unk {v : V} : Rv K r G v .unk
inductive RvL (K : PySem.W.Frag) (r : List Addr) (G : Hp) : List V → List Dx → Prop
  | nil : RvL K r G [] []
  | cons {v : V} {d : Dx} {vs : List V} {ds : List Dx} (h : Rv K r G v d) (l : RvL K r G vs ds) : RvL K r G (v :: vs) (d :: ds)
inductive RvF (K : PySem.W.Frag) (r : List Addr) (G : Hp) : List (Str × V) → Fs → Prop
  | nil : RvF K r G [] []
  | cons {f : String} {v : V} {d : Dx} {gs : List (Str × V)} {fs : Fs} (h : Rv K r G v d) (l : RvF K r G gs fs) : RvF K r G ((Str.ofString f, v) :: gs) ((f, d) :: fs)
end
/-- an exception's own dict -/
inductive Rx (K : PySem.W.Frag) (r : List Addr) (G : Hp) : Option Addr → Fs → Prop
  | no : Rx K r G none []
  | own {d : Addr} {gs : List (Str × V)} {fs : Fs} (k : G d = some (.xd gs)) (l : RvF K r G gs fs) : Rx K r G (some d) fs
def Pre (r r' : List Addr) : Prop := ∀ (n : Nat) (a : Addr), r[n]? = some a → r'[n]? = some a
theorem Pre.refl (r : List Addr) : Pre r r := fun _ _ h => h
theorem Pre.trans {a b c : List Addr} (h : Pre a b) (k : Pre b c) : Pre a c := fun n x e => k n x (h n x e)
theorem Pre.app (r t : List Addr) : Pre r (r ++ t) := fun n a h => by
  have hl : n < r.length := (List.getElem?_eq_some_iff.mp h).1
  rw [List.getElem?_append_left hl]; exact h
section
variable {K : PySem.W.Frag} {r r' : List Addr} {G G' : Hp}
theorem seqT_same {a : Addr} {xs : List V} (s : Same G G') (h : SqT K G a xs) : SqT K G' a xs := by
  rcases h with (h | ⟨o, h⟩) | h
  · exact .inl (.inl (s _ _ h))
  · exact .inl (.inr ⟨o, s _ _ h⟩)
  · exact .inr h
theorem seqL_same {a : Addr} {xs : List V} (s : Same G G') (h : SqL K G a xs) : SqL K G' a xs := by
  rcases h with (h | ⟨o, h⟩) | h
  · exact .inl (.inl (s _ _ h))
  · exact .inl (.inr ⟨o, s _ _ h⟩)
  · exact .inr h
mutual
theorem Rv.mono (s : Same G G') (e : Pre r r') : ∀ {v : V} {d : Dx}, Rv K r G v d → Rv K r' G' v d
  | _, _, .non => .non
  | _, _, .bl b => .bl b
  | _, _, .int i => .int i
  | _, _, .str h => .str h
  | _, _, .tup h l => .tup (seqT_same s h) (l.mono s e)
  | _, _, .lst h l => .lst (s _ _ h) (l.mono s e)
  | _, _, .fro h l => .fro (seqL_same s h) (l.mono s e)
  | _, _, .dct h => .dct (s _ _ h)
  | _, _, .obj h m f l => .obj (s _ _ h) m f (l.mono s e)
  | _, _, .cell h => .cell (e _ _ h)
  | _, _, .cls => .cls
  | _, _, .ty => .ty
  | _, _, .unk => .unk
theorem RvL.mono (s : Same G G') (e : Pre r r') : ∀ {v : List V} {d : List Dx}, RvL K r G v d → RvL K r' G' v d
  | _, _, .nil => .nil
  | _, _, .cons h l => .cons (h.mono s e) (l.mono s e)
theorem RvF.mono (s : Same G G') (e : Pre r r') : ∀ {v : List (Str × V)} {d : Fs}, RvF K r G v d → RvF K r' G' v d
  | _, _, .nil => .nil
  | _, _, .cons h l => .cons (h.mono s e) (l.mono s e)
end
theorem Rx.mono (s : Same G G') (e : Pre r r') {d : Option Addr} {fs : Fs} : Rx K r G d fs → Rx K r' G' d fs
  | .no => .no
  | .own k l => .own (s _ _ k) (l.mono s e)
theorem RvL.len : ∀ {vs : List V} {ds : List Dx}, RvL K r G vs ds → vs.length = ds.length
  | _, _, .nil => rfl
  | _, _, .cons _ l => congrArg (· + 1) l.len
theorem RvF.len : ∀ {vs : List (Str × V)} {ds : Fs}, RvF K r G vs ds → vs.length = ds.length
  | _, _, .nil => rfl
  | _, _, .cons _ l => congrArg (· + 1) l.len
theorem RvL.at_ : ∀ {vs : List V} {ds : List Dx}, RvL K r G vs ds → ∀ {i : Nat} {d : Dx}, ds[i]? = some d → ∃ v, vs[i]? = some v ∧ Rv K r G v d
  | _, _, .nil, i, v, e => by simp at e
  | _, _, .cons h l, 0, v, e => by
    simp only [List.getElem?_cons_zero, Option.some.injEq] at e
    subst e
    exact ⟨_, by simp, h⟩
  | _, _, .cons h l, i + 1, v, e => by
    simp only [List.getElem?_cons_succ] at e ⊢
    exact l.at_ e
theorem RvL.at' : ∀ {vs : List V} {ds : List Dx}, RvL K r G vs ds → ∀ {i : Nat} {v : V}, vs[i]? = some v → ∃ d, ds[i]? = some d ∧ Rv K r G v d
  | _, _, .nil, i, v, e => by simp at e
  | _, _, .cons h l, 0, v, e => by
    simp only [List.getElem?_cons_zero, Option.some.injEq] at e
    subst e
    exact ⟨_, by simp, h⟩
  | _, _, .cons h l, i + 1, v, e => by
    simp only [List.getElem?_cons_succ] at e ⊢
    exact l.at' e
theorem RvL.app : ∀ {vs us : List V} {ds es : List Dx}, RvL K r G vs ds → RvL K r G us es → RvL K r G (vs ++ us) (ds ++ es)
  | _, _, _, _, .nil, k => k
  | _, _, _, _, .cons h l, k => .cons h (l.app k)
theorem RvL.set : ∀ {vs : List V} {ds : List Dx} {v : V} {d : Dx}, RvL K r G vs ds → Rv K r G v d → ∀ n, RvL K r G (vs.set n v) (ds.set n d)
  | _, _, _, _, .nil, _, _ => .nil
  | _, _, _, _, .cons _ l, k, 0 => .cons k l
  | _, _, _, _, .cons h l, k, n + 1 => .cons h (l.set k n)
theorem RvL.drop : ∀ {vs : List V} {ds : List Dx}, RvL K r G vs ds → ∀ n, RvL K r G (vs.drop n) (ds.drop n)
  | _, _, h, 0 => h
  | _, _, .nil, _ + 1 => .nil
  | _, _, .cons _ l, n + 1 => l.drop n
theorem RvL.take : ∀ {vs : List V} {ds : List Dx}, RvL K r G vs ds → ∀ n, RvL K r G (vs.take n) (ds.take n)
  | _, _, _, 0 => .nil
  | _, _, .nil, _ + 1 => .nil
  | _, _, .cons h l, n + 1 => .cons h (l.take n)
theorem RvL.rep {vs : List V} {ds : List Dx} (h : RvL K r G vs ds) : ∀ n, RvL K r G (List.replicate n vs).flatten (List.replicate n ds).flatten
  | 0 => .nil
  | n + 1 => by
    rw [List.replicate_succ, List.flatten_cons, List.replicate_succ, List.flatten_cons]
    exact h.app (h.rep n)
theorem RvF.look : ∀ {gs : List (Str × V)} {fs : Fs}, RvF K r G gs fs → ∀ {f : String} {d : Dx}, fs.lookup f = some d → ∃ v, gs.lookup (Str.ofString f) = some v ∧ Rv K r G v d
  | _, _, .nil, f, d, e => by cases e
  | _, _, .cons (f := g) h l, f, d, e => by
    rw [List.lookup_cons] at e ⊢
    by_cases q : f = g
    · subst q
      simp only [beq_self_eq_true] at e ⊢
      cases e
      exact ⟨_, rfl, h⟩
    · have q1 : (f == g) = false := by simpa using q
      have q2 : (Str.ofString f == Str.ofString g) = false := by simpa using fun z => q (ofS_inj z)
      rw [q1] at e
      rw [q2]
      exact l.look e
theorem RvF.none : ∀ {gs : List (Str × V)} {fs : Fs}, RvF K r G gs fs → ∀ {f : String}, fs.lookup f = none → gs.lookup (Str.ofString f) = none
  | _, _, .nil, f, e => rfl
  | _, _, .cons (f := g) h l, f, e => by
    rw [List.lookup_cons] at e ⊢
    by_cases q : f = g
    · subst q
      simp only [beq_self_eq_true] at e
      cases e
    · have q1 : (f == g) = false := by simpa using q
      have q2 : (Str.ofString f == Str.ofString g) = false := by simpa using fun z => q (ofS_inj z)
      rw [q1] at e
      rw [q2]
      exact l.none e
theorem RvF.put {v : V} {d : Dx} (h : Rv K r G v d) (f : String) : ∀ {gs : List (Str × V)} {fs : Fs}, RvF K r G gs fs → RvF K r G (L2.putF (Str.ofString f) v gs) (putE f d fs)
  | _, _, .nil => .cons h .nil
  | _, _, .cons (f := g) k l => by
    unfold L2.putF putE
    by_cases q : g = f
    · subst q
      rw [if_pos rfl, if_pos rfl]
      exact .cons h l
    · rw [if_neg q, if_neg (fun z => q (ofS_inj z))]
      exact .cons k (l.put h f)
theorem putF_all {α : Type} {C f : String} {v : α} (h : hasF C f = true) : ∀ {fs : List (String × α)}, (fs.all fun q => hasF C q.1) = true → ((putE f v fs).all fun q => hasF C q.1) = true
  | [], _ => by simp [h]
  | (g, x) :: fs, k => by
    simp only [List.all_cons, Bool.and_eq_true] at k
    unfold putE
    split
    · simp [h, k.2]
    · simp [k.1, putF_all h k.2]
theorem RvL.ints : ∀ {ns : List Int}, RvL K r G (ns.map V.int) (ns.map Dx.int)
  | [] => .nil
  | _ :: _ => .cons (.int _) RvL.ints
theorem RvL.strs : ∀ {zs : List Tx}, (∀ z ∈ zs, okT z) → RvL K r G (zs.map fun z => V.str (tS z)) (zs.map Dx.str)
  | [], _ => .nil
  | _ :: _, h => .cons (.str (h _ List.mem_cons_self)) (RvL.strs fun z hz => h z (List.mem_cons_of_mem _ hz))
end
/-! ## the store -/
/-- the name of what the k-th maker makes; where its table stands -/
def tabQ (k : Nat) : Str := Str.ofString (match tabL[k]? with | some (_, _, q) => q | none => "")
inductive Rc (K : PySem.W.Frag) (r : List Addr) (G : Hp) : HO → Cl → Prop
  | lst {vs : List V} {ds : List Dx} (l : RvL K r G vs ds) : Rc K r G (.lst vs) (.lst ds)
  | obj {dx : Addr} {C : String} {gs : List (Str × V)} {fs : Fs} (m : inT C = true) (f : (fs.all fun q => hasF C q.1) = true) (l : RvF K r G gs fs) : Rc K r G (.ins (ga K C) dx gs) (.obj C fs)
  | tbl {ps : Array Value} {k : Nat} (h : TriplesOk ps.toList) (q : ∀ (pos : Pos) (cv : Value), codeAmong pos ps.toList = some cv → ∃ c, cv = .ref c ∧ G c = some (LamX.CodeO c (tabQ k))) : Rc K r G (.tbl ps) (.tbl k)
  | fn {o : HO} : Rc K r G o .fn
theorem Rc.mono {K : PySem.W.Frag} {r r' : List Addr} {G G' : Hp} (s : Same G G') (e : Pre r r') {o : HO} {c : Cl} : Rc K r G o c → Rc K r' G' o c
  | .lst l => .lst (l.mono s e)
  | .obj m f l => .obj m f (l.mono s e)
  | .tbl h q => .tbl h fun pos cv hc => (q pos cv hc).elim fun c z => ⟨c, z.1, s _ _ z.2⟩
  | .fn => .fn
structure Rel (K : PySem.W.Frag) (w : Wd) (H : Hp) (s : Sto) : Prop where
  nd : (w.h ++ w.r).Nodup
  al : ∀ a ∈ w.h, H a ≠ none
  len : w.r.length = s.length
  ce : ∀ (n : Nat) (c : Cl), s[n]? = some c → ∃ a o, w.r[n]? = some a ∧ H a = some o ∧ Rc K w.r (w.G H) o c
  tb : ∀ n k : Nat, s[n]? = some (.tbl k) → w.r[n]? = some (tabA K k)
structure Ext (z : List Addr) (w : Wd) (H : Hp) (w' : Wd) (H' : Hp) : Prop where
  h : w'.h = w.h
  r : ∃ t, w'.r = w.r ++ t
  s : Same (w.G H) (w'.G H')
  k : ∀ a ∈ w.h, a ∉ z → H' a = H a
theorem Ext.pre {z : List Addr} {w w' : Wd} {H H' : Hp} (e : Ext z w H w' H') : Pre w.r w'.r := by
  obtain ⟨t, h⟩ := e.r
  rw [h]; exact Pre.app _ _
theorem Ext.refl (z : List Addr) (w : Wd) (H : Hp) : Ext z w H w H := ⟨rfl, ⟨[], by simp⟩, Same.refl _, fun _ _ _ => rfl⟩
theorem Ext.trans {z : List Addr} {w w1 w2 : Wd} {H H1 H2 : Hp} (a : Ext z w H w1 H1) (b : Ext z w1 H1 w2 H2) : Ext z w H w2 H2 := by
  obtain ⟨t, ht⟩ := a.r
  obtain ⟨u, hu⟩ := b.r
  refine ⟨b.h.trans a.h, ⟨t ++ u, by rw [hu, ht, List.append_assoc]⟩, Same.trans a.s b.s, fun x hx n => ?_⟩
  rw [b.k x (by rw [a.h]; exact hx) n, a.k x hx n]
theorem Ext.weak {z : List Addr} {w w' : Wd} {H H' : Hp} (e : Ext [] w H w' H') : Ext z w H w' H' := ⟨e.h, e.r, e.s, fun a ha _ => e.k a ha (by simp)⟩
section
variable {K : PySem.W.Frag} {w w' : Wd} {H H' : Hp} {s : Sto}
theorem Rv.ext {z : List Addr} (e : Ext z w H w' H') {v : V} {d : Dx} (h : Rv K w.r (w.G H) v d) : Rv K w'.r (w'.G H') v d := h.mono e.s e.pre
theorem RvL.ext {z : List Addr} (e : Ext z w H w' H') {v : List V} {d : List Dx} (h : RvL K w.r (w.G H) v d) : RvL K w'.r (w'.G H') v d := h.mono e.s e.pre
theorem RvF.ext {z : List Addr} (e : Ext z w H w' H') {v : List (Str × V)} {d : Fs} (h : RvF K w.r (w.G H) v d) : RvF K w'.r (w'.G H') v d := h.mono e.s e.pre
theorem Rel.free (R : Rel K w H s) {a : Addr} (n : H a = none) : a ∉ w.h ++ w.r := fun h => by
  rcases List.mem_append.mp h with h | h
  · exact R.al a h n
  · obtain ⟨i, hi⟩ := List.getElem?_of_mem h
    have hl : i < s.length := by rw [← R.len]; exact (List.getElem?_eq_some_iff.mp hi).1
    obtain ⟨b, o, hb, ho, _⟩ := R.ce i s[i] (List.getElem?_eq_getElem hl)
    rw [hi] at hb
    cases hb
    rw [n] at ho
    cases ho
/-- the store's content stays, the rest grows -/
theorem Rel.keep (R : Rel K w H s) (k : ∀ a ∈ w.h ++ w.r, H' a = H a) (g : Same (w.G H) (w.G H')) : Rel K w H' s ∧ Ext [] w H w H' := by
  refine ⟨⟨R.nd, fun a ha => by rw [k a (List.mem_append_left _ ha)]; exact R.al a ha, R.len, fun n c hc => ?_, R.tb⟩, ⟨rfl, ⟨[], by simp⟩, g, fun a ha _ => k a (List.mem_append_left _ ha)⟩⟩
  obtain ⟨a, o, h1, h2, h3⟩ := R.ce n c hc
  exact ⟨a, o, h1, by rw [k a (List.mem_append_right _ (List.mem_of_getElem? h1))]; exact h2, h3.mono g (Pre.refl _)⟩
/-- a new tree's object -/
theorem Rel.new (R : Rel K w H s) {a : Addr} (n : H a = none) (o : HO) : Rel K w (upd H a o) s ∧ Ext [] w H w (upd H a o) ∧ w.G (upd H a o) a = some o := by
  have nf := R.free n
  have g : Same (w.G H) (w.G (upd H a o)) := fun b u h => by
    obtain ⟨h1, h2⟩ := hid_some h
    show hid (w.h ++ w.r) (upd H a o) b = some u
    rw [hid_out h1, upd_ne (ne_of_none h2 n)]; exact h2
  obtain ⟨r1, e1⟩ := R.keep (H' := upd H a o) (fun b hb => upd_ne (fun z => nf (z ▸ hb))) g
  exact ⟨r1, e1, by show hid (w.h ++ w.r) (upd H a o) a = some o; rw [hid_out nf, upd_same]⟩
/-- a new cell -/
theorem Rel.newC (R : Rel K w H s) {a : Addr} (n : H a = none) {o : HO} {c : Cl} (hc : Rc K w.r (w.G H) o c) (hn : ∀ k, c ≠ .tbl k := by intro k h; cases h) :
    Rel K ⟨w.r ++ [a], w.h⟩ (upd H a o) (s ++ [c]) ∧ Ext [] w H ⟨w.r ++ [a], w.h⟩ (upd H a o) := by
  have nf := R.free n
  have g : Same (w.G H) (Wd.G ⟨w.r ++ [a], w.h⟩ (upd H a o)) := fun b u h => by
    obtain ⟨h1, h2⟩ := hid_some h
    have nb := ne_of_none h2 n
    show hid (w.h ++ (w.r ++ [a])) (upd H a o) b = some u
    rw [hid_out, upd_ne nb]
    · exact h2
    · simp only [List.mem_append, List.mem_singleton] at h1 ⊢
      exact fun z => z.elim (fun z => h1 (.inl z)) fun z => z.elim (fun z => h1 (.inr z)) nb
  have nf2 : ∀ b ∈ w.h ++ w.r, b ≠ a := fun b hb z => nf (z ▸ hb)
  refine ⟨⟨?_, fun b hb => ?_, by simp [R.len], fun m d hd => ?_, fun m k hm => ?_⟩, ⟨rfl, ⟨[a], rfl⟩, g, fun b hb _ => upd_ne (nf2 b (List.mem_append_left _ hb))⟩⟩
  · show (w.h ++ (w.r ++ [a])).Nodup
    rw [← List.append_assoc]
    refine List.nodup_append.mpr ⟨R.nd, by simp, fun x hx y hy => ?_⟩
    rw [List.mem_singleton] at hy
    subst hy
    exact nf2 x hx
  · rw [upd_ne (nf2 b (List.mem_append_left _ hb))]; exact R.al b hb
  · by_cases hm : m < s.length
    · rw [List.getElem?_append_left hm] at hd
      obtain ⟨b, u, h1, h2, h3⟩ := R.ce m d hd
      refine ⟨b, u, Pre.app _ _ _ _ h1, ?_, h3.mono g (Pre.app _ _)⟩
      rw [upd_ne (nf2 b (List.mem_append_right _ (List.mem_of_getElem? h1)))]; exact h2
    · have hm2 : m = s.length := by
        have := (List.getElem?_eq_some_iff.mp hd).1
        simp at this
        omega
      subst hm2
      simp at hd
      subst hd
      refine ⟨a, o, ?_, upd_same, hc.mono g (Pre.app _ _)⟩
      show (w.r ++ [a])[s.length]? = some a
      rw [← R.len]
      simp
  · by_cases hl : m < s.length
    · rw [List.getElem?_append_left hl] at hm
      exact Pre.app _ _ _ _ (R.tb m k hm)
    · rw [List.getElem?_append_right (by omega)] at hm
      cases hq : m - s.length with
      | zero =>
        rw [hq] at hm
        exact absurd (Option.some.inj hm) (hn k)
      | succ q => rw [hq] at hm; simp at hm
/-- a cell's content changes -/
theorem Rel.put (R : Rel K w H s) {n : Nat} {a : Addr} {c : Cl} {o : HO} (ha : w.r[n]? = some a) (hc : Rc K w.r (w.G H) o c) (hn : ∀ k, c = .tbl k → s[n]? = some (.tbl k) := by intro k h; cases h) : Rel K w (upd H a o) (s.set n c) ∧ Ext [] w H w (upd H a o) := by
  have am : a ∈ w.r := List.mem_of_getElem? ha
  have ah : a ∉ w.h := fun z => (List.nodup_append.mp R.nd).2.2 a z a am rfl
  have g : w.G (upd H a o) = w.G H := by
    funext b
    unfold Wd.G hid
    split
    · rfl
    · rename_i hb
      exact upd_ne fun z => hb (z ▸ List.mem_append_right _ am)
  have nh : ∀ b ∈ w.h, b ≠ a := fun b hb z => ah (z ▸ hb)
  refine ⟨⟨R.nd, fun b hb => ?_, by simp [R.len], fun m d hd => ?_, fun m k hm => ?_⟩, ⟨rfl, ⟨[], by simp⟩, by rw [g]; exact Same.refl _, fun b hb _ => upd_ne (nh b hb)⟩⟩
  · rw [upd_ne (nh b hb)]; exact R.al b hb
  · rw [g]
    by_cases hm : n = m
    · subst hm
      have hl : n < s.length := by
        have := (List.getElem?_eq_some_iff.mp hd).1
        simpa using this
      rw [List.getElem?_set_self hl] at hd
      cases hd
      exact ⟨a, o, ha, upd_same, hc⟩
    · rw [List.getElem?_set_ne hm] at hd
      obtain ⟨b, u, h1, h2, h3⟩ := R.ce m d hd
      refine ⟨b, u, h1, ?_, h3⟩
      rw [upd_ne]
      · exact h2
      · rintro rfl
        have nr : w.r.Nodup := (List.nodup_append.mp R.nd).2.1
        have l1 := (List.getElem?_eq_some_iff.mp ha)
        have l2 := (List.getElem?_eq_some_iff.mp h1)
        obtain ⟨l1, e1⟩ := l1
        obtain ⟨l2, e2⟩ := l2
        exact hm ((List.getElem_inj nr).mp (e1.trans e2.symm))
  · by_cases hq : n = m
    · subst hq
      have hl : n < s.length := by
        have := (List.getElem?_eq_some_iff.mp hm).1
        simpa using this
      rw [List.getElem?_set_self hl] at hm
      exact R.tb n k (hn k (Option.some.inj hm))
    · rw [List.getElem?_set_ne hq] at hm
      exact R.tb m k hm
/-- a cell's object -/
theorem Rel.at_ (R : Rel K w H s) {n : Nat} {a : Addr} {c : Cl} (ha : w.r[n]? = some a) (hc : s[n]? = some c) : ∃ o, H a = some o ∧ Rc K w.r (w.G H) o c := by
  obtain ⟨b, o, h1, h2, h3⟩ := R.ce n c hc
  rw [ha] at h1
  cases h1
  exact ⟨o, h2, h3⟩
end
/-! ## slots -/
def Px.z (p : Px) : List Addr := match p.f with
  | none => []
  | some (x, _, _) => [x]
/-- a slot that may be set -/
def Px.free (p : Px) (i : Nat) : Prop := (p.f = none ∨ i ≠ 0) ∧ ((p.x = none ∧ p.an = none) ∨ i ≠ p.i)
def MeOk (K : PySem.W.Frag) (p : Px) (w : Wd) (H : Hp) (e : En) (σ : L2.St) : Prop := match p.f with
  | none => True
  | some (x, dx, C) => σ[0]? = some (some (.ref x)) ∧ e.sl[0]? = some none ∧ x ∈ w.h ∧ inT C = true ∧ (e.me.all fun q => hasF C q.1) = true ∧ ∃ gs, H x = some (.ins (ga K C) dx gs) ∧ RvF K w.r (w.G H) gs e.me
def ExOk (K : PySem.W.Frag) (p : Px) (w : Wd) (H : Hp) (e : En) (σ : L2.St) : Prop := match p.x with
  | none => e.ex = none
  | some (a, c, d) => σ[p.i]? = some (some (.ref a)) ∧ ∃ C fs, e.ex = some (C, fs) ∧ c = .ref (ga K C) ∧ inX C = true ∧ Rx K w.r (w.G H) d fs
structure RelE (K : PySem.W.Frag) (p : Px) (w : Wd) (H : Hp) (e : En) (σ : L2.St) : Prop where
  len : e.sl.length = σ.length
  sl : ∀ (i : Nat) (d : Dx), e.sl[i]? = some (some d) → ∃ v, σ[i]? = some (some v) ∧ Rv K w.r (w.G H) v d
  me : MeOk K p w H e σ
  ex : ExOk K p w H e σ
  an : ∀ a, p.an = some a → Same (a.1.G a.2.1) (w.G H) ∧ Pre a.1.r w.r ∧ σ[p.i]? = some (some a.2.2)
section
variable {K : PySem.W.Frag} {p : Px} {w w' : Wd} {H H' : Hp} {e : En} {σ : L2.St}
theorem RelE.ext' (E : RelE K p w H e σ) (s : Same (w.G H) (w'.G H')) (r : Pre w.r w'.r) (hh : ∀ a ∈ w.h, a ∈ w'.h ∧ H' a = H a) : RelE K p w' H' e σ := by
  refine ⟨E.len, fun i d h => ?_, ?_, ?_, fun a ha => ⟨Same.trans (E.an a ha).1 s, (E.an a ha).2.1.trans r, (E.an a ha).2.2⟩⟩
  · obtain ⟨v, h1, h2⟩ := E.sl i d h
    exact ⟨v, h1, h2.mono s r⟩
  · have m := E.me
    unfold MeOk at m ⊢
    split
    · trivial
    · rename_i a dx C q
      rw [q] at m
      obtain ⟨m1, m0, m2, m3, m4, gs, m5, m6⟩ := m
      exact ⟨m1, m0, (hh a m2).1, m3, m4, gs, by rw [(hh a m2).2]; exact m5, m6.mono s r⟩
  · have m := E.ex
    unfold ExOk at m ⊢
    split
    · rename_i q
      rw [q] at m
      exact m
    · rename_i a c d q
      rw [q] at m
      obtain ⟨m1, C, fs, m2, m3, m4, m5⟩ := m
      exact ⟨m1, C, fs, m2, m3, m4, m5.mono s r⟩
theorem RelE.ext (E : RelE K p w H e σ) (x : Ext [] w H w' H') : RelE K p w' H' e σ := E.ext' x.s x.pre fun a ha => ⟨by rw [x.h]; exact ha, x.k a ha (by simp)⟩
theorem RelE.put (E : RelE K p w H e σ) {i : Nat} (hf : p.free i) (z : Option V) (y : Option Dx) (h : ∀ d, y = some d → ∃ v, z = some v ∧ Rv K w.r (w.G H) v d) : RelE K p w H { e with sl := e.sl.set i y } (σ.set i z) := by
  refine ⟨by simp [E.len], fun j u hu => ?_, ?_, ?_, fun b hb => ⟨(E.an b hb).1, (E.an b hb).2.1, by
    have hi : i ≠ p.i := hf.2.elim (fun z => by rw [z.2] at hb; cases hb) id
    rw [List.getElem?_set_ne hi]; exact (E.an b hb).2.2⟩⟩
  · by_cases q : i = j
    · subst q
      have hl : i < e.sl.length := by
        have := (List.getElem?_eq_some_iff.mp hu).1
        simpa using this
      have hu : (e.sl.set i y)[i]? = some (some u) := hu
      rw [List.getElem?_set_self hl] at hu
      cases hu
      obtain ⟨v, h1, h2⟩ := h u rfl
      exact ⟨v, by rw [List.getElem?_set_self (by rw [← E.len]; exact hl), h1], h2⟩
    · have hu : (e.sl.set i y)[j]? = some (some u) := hu
      rw [List.getElem?_set_ne q] at hu
      obtain ⟨v, h1, h2⟩ := E.sl j u hu
      exact ⟨v, by rw [List.getElem?_set_ne q]; exact h1, h2⟩
  · have m := E.me
    unfold MeOk at m ⊢
    split
    · trivial
    · rename_i a dx C q
      rw [q] at m
      have hi : i ≠ 0 := hf.1.elim (fun z => by rw [z] at q; cases q) id
      refine ⟨by rw [List.getElem?_set_ne hi]; exact m.1, ?_, m.2.2⟩
      show (e.sl.set i y)[0]? = some none
      rw [List.getElem?_set_ne hi]; exact m.2.1
  · have m := E.ex
    unfold ExOk at m ⊢
    split
    · rename_i q
      rw [q] at m
      exact m
    · rename_i a c d q
      rw [q] at m
      have hi : i ≠ p.i := hf.2.elim (fun z => by rw [z.1] at q; cases q) id
      exact ⟨by rw [List.getElem?_set_ne hi]; exact m.1, m.2⟩
theorem RelE.set (E : RelE K p w H e σ) {v : V} {d : Dx} (r : Rv K w.r (w.G H) v d) {i : Nat} (hf : p.free i) : RelE K p w H { e with sl := e.sl.set i (some d) } (σ.set i (some v)) := E.put hf (some v) (some d) fun u h => by cases h; exact ⟨v, rfl, r⟩
theorem RelE.clear (E : RelE K p w H e σ) {i : Nat} (hf : p.free i) : RelE K p w H { e with sl := e.sl.set i none } (σ.set i none) := E.put hf none none fun u h => by cases h
theorem RelE.wipe (E : RelE K p w H e σ) : ∀ ws : List Nat, (∀ i ∈ ws, p.free i) → RelE K p w H { e with sl := wipeE e.sl ws } (L2.wipe σ ws)
  | [], _ => E
  | v :: vs, hf => (E.wipe vs fun i h => hf i (List.mem_cons_of_mem _ h)).clear (hf v List.mem_cons_self)
end
/-! ## what is wanted of an outcome -/
def Fin {α β : Type} (K : PySem.W.Frag) (w : Wd) (H : Hp) (rel : List Addr → Hp → α → β → Prop) (Q : α → Hp → Prop) (X : XK) : R β → Prop
  | .ok d s => ∀ w' H' v, Ext [] w H w' H' → Rel K w' H' s → rel w'.r (w'.G H') v d → Q v H'
  | .exc C fs s => ∀ w' H' dx, Ext [] w H w' H' → Rel K w' H' s → inX C = true → Rx K w'.r (w'.G H') dx fs → X (.ref (ga K C)) dx H'
  | .stuck => False
def FinS (K : PySem.W.Frag) (p : Px) (w : Wd) (H : Hp) (D : Ends) (W : WX) : S → Prop
  | .nx e s => ∀ w' H' σ', Ext p.z w H w' H' → Rel K w' H' s → RelE K p w' H' e σ' → D.nx σ' H'
  | .bk e s => ∀ w' H' σ', Ext p.z w H w' H' → Rel K w' H' s → RelE K p w' H' e σ' → D.bk σ' H'
  | .ct e s => ∀ w' H' σ', Ext p.z w H w' H' → Rel K w' H' s → RelE K p w' H' e σ' → D.ct σ' H'
  | .rt d s => ∀ w' H' v, Ext p.z w H w' H' → Rel K w' H' s → Rv K w'.r (w'.G H') v d → D.rt v H'
  | .exc C fs e s => ∀ w' H' σ' dx, Ext p.z w H w' H' → Rel K w' H' s → RelE K p w' H' e σ' → inX C = true → Rx K w'.r (w'.G H') dx fs → W (.ref (ga K C)) dx σ' H'
  | .stuck => False
abbrev relB : List Addr → Hp → Bool → Bool → Prop := fun _ _ a b => a = b
abbrev relO : List Addr → Hp → Option Int → Option Int → Prop := fun _ _ a b => a = b
section
variable {K : PySem.W.Frag} {w w1 : Wd} {H H1 : Hp} {σ : L2.St} {e : En}
theorem Fin.ext {α β : Type} {rel : List Addr → Hp → α → β → Prop} {Q : α → Hp → Prop} {X : XK} {r : R β} (h : Fin K w H rel Q X r) (x : Ext [] w H w1 H1) : Fin K w1 H1 rel Q X r := by
  cases r with
  | ok d s => exact fun w' H' v y => h w' H' v (x.trans y)
  | exc C fs s => exact fun w' H' dx y => h w' H' dx (x.trans y)
  | stuck => exact h
theorem FinS.ext {D : Ends} {W : WX} {r : S} (h : FinS K p w H D W r) (x : Ext p.z w H w1 H1) : FinS K p w1 H1 D W r := by
  cases r with
  | nx e s => exact fun w' H' v y => h w' H' v (x.trans y)
  | bk e s => exact fun w' H' v y => h w' H' v (x.trans y)
  | ct e s => exact fun w' H' v y => h w' H' v (x.trans y)
  | rt d s => exact fun w' H' v y => h w' H' v (x.trans y)
  | exc C fs e s => exact fun w' H' v dx y => h w' H' v dx (x.trans y)
  | stuck => exact h
theorem Fin.bind {α β α' β' : Type} {rel : List Addr → Hp → α → β → Prop} {rel' : List Addr → Hp → α' → β' → Prop} {Q : α → Hp → Prop} {Q' : α' → Hp → Prop} {X : XK} {r : R β'} {k : β' → Sto → R β}
    (h : Fin K w H rel Q X (r.bind k)) (f : ∀ d s1 w1 H1 v, Ext [] w H w1 H1 → Rel K w1 H1 s1 → rel' w1.r (w1.G H1) v d → Fin K w1 H1 rel Q X (k d s1) → Q' v H1) : Fin K w H rel' Q' X r := by
  cases r with
  | ok d s => exact fun w' H' v x rl rv => f d s w' H' v x rl rv (Fin.ext h x)
  | exc C fs s => exact h
  | stuck => exact h
/-- an expression ahead of a statement's end -/
theorem FinS.bind {α' β' : Type} {rel' : List Addr → Hp → α' → β' → Prop} {D : Ends} {W : WX} {Q' : α' → Hp → Prop} {r : R β'} {k : β' → Sto → S} (E : RelE K p w H e σ)
    (h : FinS K p w H D W (r.s e k)) (f : ∀ d s1 w1 H1 v, Ext [] w H w1 H1 → Rel K w1 H1 s1 → rel' w1.r (w1.G H1) v d → FinS K p w1 H1 D W (k d s1) → Q' v H1) : Fin K w H rel' Q' (WE W σ) r := by
  cases r with
  | ok d s => exact fun w' H' v x rl rv => f d s w' H' v x rl rv (FinS.ext h x.weak)
  | exc C fs s => exact fun w' H' dx x rl hx rx => h w' H' σ dx x.weak rl (E.ext x) hx rx
  | stuck => exact h
theorem Fin.now {α β : Type} {rel : List Addr → Hp → α → β → Prop} {Q : α → Hp → Prop} {X : XK} {d : β} {s : Sto} {v : α} (h : Fin K w H rel Q X (.ok d s)) (rl : Rel K w H s) (rv : rel w.r (w.G H) v d) : Q v H := h w H v (Ext.refl _ _ _) rl rv
end
end Ps

/-! # soundness: operators, built-ins -/
namespace Ps
open PySem PySem.Spec PyProof.Rows L2 Vs He Pm
section
variable {K : PySem.W.Frag} {w : Wd} {H : Hp} {s : Sto}
theorem most_le {n : Nat} (h : n ≤ most) : n ≤ sizeLine := Nat.le_trans h (by rw [sizeLine_eq]; decide)
theorem most_lt {n : Nat} (h : n < most) : n < sizeLine := Nat.lt_of_lt_of_le h (by rw [sizeLine_eq]; decide)
theorem Rv.asM (R : Rel K w H s) {v : V} {d : Dx} (h : Rv K w.r (w.G H) v d) {xs : List Dx} (e : Pm.asM s d = some xs) : ∃ a vs, v = .ref a ∧ H a = some (.lst vs) ∧ RvL K w.r (w.G H) vs xs := by
  cases h with
  | lst h l => cases e; exact ⟨_, _, rfl, (hid_some h).2, l⟩
  | cell h =>
    simp only [Pm.asM] at e
    split at e
    · rename_i hc
      cases e
      obtain ⟨o, h1, h2⟩ := R.at_ h hc
      cases h2 with
      | lst l => exact ⟨_, _, rfl, h1, l⟩
    · cases e
  | _ => cases e
theorem Rv.asL (R : Rel K w H s) {v : V} {d : Dx} (h : Rv K w.r (w.G H) v d) {xs : List Dx} (e : Pm.asL s d = some xs) : ∃ a vs, v = .ref a ∧ SqL K H a vs ∧ RvL K w.r (w.G H) vs xs := by
  cases h with
  | lst h l => cases e; exact ⟨_, _, rfl, SqL.of (hid_some h).2, l⟩
  | fro h l => cases e; exact ⟨_, _, rfl, seqL_same hid_same h, l⟩
  | cell h =>
    simp only [Pm.asL] at e
    split at e
    · rename_i hc
      cases e
      obtain ⟨o, h1, h2⟩ := R.at_ h hc
      cases h2 with
      | lst l => exact ⟨_, _, rfl, SqL.of h1, l⟩
    · cases e
  | _ => cases e
theorem Rv.asQ (R : Rel K w H s) {v : V} {d : Dx} (h : Rv K w.r (w.G H) v d) {xs : List Dx} (e : Pm.asQ s d = some xs) : ∃ a vs, v = .ref a ∧ (SqL K H a vs ∨ SqT K H a vs) ∧ RvL K w.r (w.G H) vs xs := by
  have k : ∀ {d : Dx}, Rv K w.r (w.G H) v d → Pm.asL s d = some xs → ∃ a vs, v = .ref a ∧ (SqL K H a vs ∨ SqT K H a vs) ∧ RvL K w.r (w.G H) vs xs := fun h e => by
    obtain ⟨a, vs, h1, h2, h3⟩ := Rv.asL R h e
    exact ⟨a, vs, h1, .inl h2, h3⟩
  cases d with
  | tup ds => cases h with
    | tup h l => cases e; exact ⟨_, _, rfl, .inr (seqT_same hid_same h), l⟩
  | _ => exact k h e
theorem Rv.asO (R : Rel K w H s) {v : V} {d : Dx} (h : Rv K w.r (w.G H) v d) {C : String} {fs : Fs} (e : Pm.asO s d = some (C, fs)) :
    ∃ a dx gs, v = .ref a ∧ H a = some (.ins (ga K C) dx gs) ∧ inT C = true ∧ (fs.all fun q => hasF C q.1) = true ∧ RvF K w.r (w.G H) gs fs := by
  cases h with
  | obj h m f l => cases e; exact ⟨_, _, _, rfl, (hid_some h).2, m, f, l⟩
  | cell h =>
    simp only [Pm.asO] at e
    split at e
    · rename_i hc
      cases e
      obtain ⟨o, h1, h2⟩ := R.at_ h hc
      cases h2 with
      | obj m f l => exact ⟨_, _, _, rfl, h1, m, f, l⟩
    · cases e
  | _ => cases e
variable {Q : VK} {X : XK}
theorem Fin.tree {ds : List Dx} {vs : List V} {a : Addr} (h : Fin K w H (Rv K) Q X (.ok (.lst ds) s)) (R : Rel K w H s) (l : RvL K w.r (w.G H) vs ds) (n : H a = none) : Q (.ref a) (upd H a (.lst vs)) := by
  obtain ⟨r1, e1, g1⟩ := R.new n (.lst vs)
  exact h w _ _ e1 r1 (.lst g1 (l.ext e1))
theorem Fin.treeT {ds : List Dx} {vs : List V} {a : Addr} (h : Fin K w H (Rv K) Q X (.ok (.tup ds) s)) (R : Rel K w H s) (l : RvL K w.r (w.G H) vs ds) (n : H a = none) : Q (.ref a) (upd H a (.tup vs)) := by
  obtain ⟨r1, e1, g1⟩ := R.new n (.tup vs)
  exact h w _ _ e1 r1 (.tup (SqT.of g1) (l.ext e1))
theorem Fin.newL {c : Bool} {ds : List Dx} {vs : List V} {a : Addr} (h : Fin K w H (Rv K) Q X (Pm.newL c ds s)) (R : Rel K w H s) (l : RvL K w.r (w.G H) vs ds) (n : H a = none) : Q (.ref a) (upd H a (.lst vs)) := by
  cases c with
  | false => exact Fin.tree h R l n
  | true =>
    obtain ⟨r1, e1⟩ := R.newC n (Rc.lst l)
    refine h _ _ _ e1 r1 (.cell ?_)
    show (w.r ++ [a])[s.length]? = some a
    rw [← R.len]; simp
end
def SimO2 (K : PySem.W.Frag) (r : R2) (f : O2) : Prop := ∀ w H s x y d e Q X, Rel K w H s → Rv K w.r (w.G H) x d → Rv K w.r (w.G H) y e → Fin K w H (Rv K) Q X (f d e s) → r x y H Q
def SimO1 (K : PySem.W.Frag) (r : V → Hp → VK → Prop) (f : O1) : Prop := ∀ w H s x d Q X, Rel K w H s → Rv K w.r (w.G H) x d → Fin K w H (Rv K) Q X (f d s) → r x H Q
def SimF (K : PySem.W.Frag) (r : List V → Hp → VK → Prop) (f : MF) : Prop := ∀ w H s xs ds Q X, Rel K w H s → RvL K w.r (w.G H) xs ds → Fin K w H (Rv K) Q X (f ds s) → r xs H Q
/-- an operator's rule with what it computes -/
def OpM (X : Cx) (fn : Value → Value → Sem Value) (f : O2) : Prop := ∃ r, OpR X fn r ∧ SimO2 X.K r f
def CallM (X : Cx) (v : Value) (f : MF) : Prop := ∃ r, CallR X v r ∧ SimF X.K r f
section
variable {X : Cx}
theorem CDivW_of {i j : Int} (h0 : 0 < j) (h : j < 2 ^ 64) : CDivW i j := wide_div h0 (b := 64) (by omega) (by decide) (by decide)
theorem om_add : OpM X (binaryOp .Add) addD := by
  refine ⟨_, op_add.or (op_catS.or (op_catT.or op_cat)), ?_⟩
  intro w H s x y d e Q E R hx hy h
  unfold addD at h
  split at h
  · cases hx; cases hy
    exact .inl ⟨_, _, rfl, rfl, Fin.now h R (.int _)⟩
  · cases hx with | str hx =>
    cases hy with | str hy =>
    split at h
    · rename_i hl
      refine .inr (.inl ⟨_, _, rfl, rfl, ?_, ?_⟩)
      · rw [tS_len, tS_len]; exact most_le hl
      · rw [tS_app]; exact Fin.now h R (.str (okT_app hx hy))
    · exact h.elim
  · cases hx with | tup hx lx =>
    cases hy with | tup hy ly =>
    split at h
    · rename_i hl
      refine .inr (.inr (.inl ⟨_, _, _, _, rfl, rfl, seqT_same hid_same hx, seqT_same hid_same hy, ?_, ?_, ?_, fun _ a n => Fin.treeT h R (lx.app ly) n⟩))
      · intro z; subst z; cases lx
      · rw [lx.len, ly.len]; exact most_le hl
      · intro z; subst z; cases ly
    · exact h.elim
  · cases hx with | tup hx lx =>
    cases hy with | tup hy ly =>
    split at h
    · rename_i hl
      cases ly
      refine .inr (.inr (.inl ⟨_, _, _, _, rfl, rfl, seqT_same hid_same hx, seqT_same hid_same hy, ?_, ?_, fun _ => Fin.now h R (.tup hx lx), fun z => absurd rfl z⟩))
      · intro z; subst z; cases lx
      · rw [lx.len]; exact most_le (by simp only [List.length_cons, List.length_nil, most] at hl ⊢; omega)
    · exact h.elim
  · split at h
    · rename_i h1 h2
      obtain ⟨a, vs, rfl, ha, la⟩ := Rv.asM R hx h1
      obtain ⟨b, us, rfl, hb, lb⟩ := Rv.asM R hy h2
      split at h
      · rename_i hl
        exact .inr (.inr (.inr ⟨a, b, vs, us, rfl, rfl, ha, hb, by rw [la.len, lb.len]; exact most_le hl, fun q n => Fin.tree h R (la.app lb) n⟩))
      · exact h.elim
    · exact h.elim
theorem om_sub : OpM X (binaryOp .Sub) subD := by
  refine ⟨_, op_sub, ?_⟩
  intro w H s x y d e Q E R hx hy h
  unfold subD at h
  split at h
  · cases hx; cases hy
    exact ⟨_, _, rfl, rfl, Fin.now h R (.int _)⟩
  · exact h.elim
theorem mul_tS (z : Tx) (n : Int) (h0 : 0 ≤ n) : Txt.mul (tS z) n = tS (List.replicate n.toNat z).flatten := by
  have fold : ∀ (k : Nat) (acc : Tx), List.foldl (fun x1 x2 => x1 ++ x2) acc.toArray (List.replicate k z.toArray) = (acc ++ (List.replicate k z).flatten).toArray := by
    intro k
    induction k with
    | zero => intro acc; simp
    | succ k ih =>
      intro acc
      rw [List.replicate_succ, List.foldl_cons, List.append_toArray, ih, List.replicate_succ, List.flatten_cons, List.append_assoc]
  by_cases h1 : n < 1
  · have e : n.toNat = 0 := by omega
    unfold Txt.mul
    rw [if_pos h1, e]
    rfl
  by_cases h2 : n = 1
  · subst h2
    have e : (1 : Int).toNat = 1 := rfl
    unfold Txt.mul
    simp [tS]
  by_cases h3 : z = []
  · subst h3
    unfold Txt.mul
    simp [tS, Str.length, h1]
  · have h4 : z.length ≠ 0 := fun q => h3 (List.eq_nil_of_length_eq_zero q)
    unfold Txt.mul
    simp [tS, Str.length, h1, h2, h4]
    simpa using fold n.toNat []
theorem om_mul : OpM X (binaryOp .Mult) mulD := by
  refine ⟨_, op_mul.or (op_timS.or op_rep), ?_⟩
  intro w H s x y d e Q E R hx hy h
  unfold mulD at h
  split at h
  · cases hx; cases hy
    split at h
    · rename_i hc
      exact .inl ⟨_, _, rfl, rfl, hc, Fin.now h R (.int _)⟩
    · exact h.elim
  · cases hx with | str hx =>
    cases hy
    split at h
    · rename_i hc
      obtain ⟨c1, c2, c3⟩ := hc
      refine .inr (.inl ⟨_, _, rfl, rfl, ?_, ?_⟩)
      · rename_i a j
        have hm : (tS a).length * j.toNat ≤ 10000 := by
          rw [tS_len]
          have : a.length * j.toNat ≤ 100 * 100 := Nat.mul_le_mul c3 (by omega)
          omega
        refine ⟨by simp; omega, fun h1 _ => ?_, fun h1 _ => decide_eq_false (by rw [sizeLine_eq]; omega)⟩
        · rw [tS_len]
          have : (92233720368547758 : Int) ≤ (2 ^ 63 - 1) / j := by
            rw [Int.le_ediv_iff_mul_le (by omega)]
            omega
          omega
      · rw [mul_tS _ _ c1]
        refine Fin.now h R (.str ?_)
        intro c hc
        rw [List.mem_flatten] at hc
        obtain ⟨l, hl, hc⟩ := hc
        rw [List.mem_replicate] at hl
        exact hx c (hl.2 ▸ hc)
    · exact h.elim
  · cases hx with | lst hx lx =>
    cases hy
    split at h
    · rename_i hc
      obtain ⟨c1, c2, c3⟩ := hc
      refine .inr (.inr ⟨_, _, _, rfl, rfl, (hid_some hx).2, by omega, by omega, ?_, fun q n => Fin.tree h R (lx.rep _) n⟩)
      refine Nat.le_trans (Nat.mul_le_mul (by rw [lx.len]; exact c3) (show _ ≤ 10000 from by omega)) (by rw [sizeLine_eq]; decide)
    · exact h.elim
  · exact h.elim
theorem om_addC : OpM X (binaryOp .Add) addC := by
  refine ⟨_, op_cat, ?_⟩
  intro w H s x y d e Q E R hx hy h
  unfold addC at h
  split at h
  · rename_i h1 h2
    obtain ⟨a, vs, rfl, ha, la⟩ := Rv.asM R hx h1
    obtain ⟨b, us, rfl, hb, lb⟩ := Rv.asM R hy h2
    split at h
    · rename_i hl
      exact ⟨a, b, vs, us, rfl, rfl, ha, hb, by rw [la.len, lb.len]; exact most_le hl, fun q n => Fin.newL (c := true) h R (la.app lb) n⟩
    · exact h.elim
  · exact h.elim
theorem om_mulC : OpM X (binaryOp .Mult) mulC := by
  refine ⟨_, op_rep, ?_⟩
  intro w H s x y d e Q E R hx hy h
  unfold mulC at h
  split at h
  · cases hx with | lst hx lx =>
    cases hy
    split at h
    · rename_i hc
      obtain ⟨c1, c2, c3⟩ := hc
      refine ⟨_, _, _, rfl, rfl, (hid_some hx).2, by omega, by omega, ?_, fun q n => Fin.newL (c := true) h R (lx.rep _) n⟩
      refine Nat.le_trans (Nat.mul_le_mul (by rw [lx.len]; exact c3) (show _ ≤ 10000 from by omega)) (by rw [sizeLine_eq]; decide)
    · exact h.elim
  · exact h.elim
theorem om_mod : OpM X (binaryOp .Mod) modD := by
  refine ⟨_, op_mod, ?_⟩
  intro w H s x y d e Q E R hx hy h
  unfold modD at h
  split at h
  · cases hx; cases hy
    split at h
    · rename_i hc
      exact ⟨_, _, rfl, rfl, hc, Fin.now h R (.int _)⟩
    · exact h.elim
  · exact h.elim
theorem om_div : OpM X (binaryOp .FloorDiv) divD := by
  refine ⟨_, op_fdivW, ?_⟩
  intro w H s x y d e Q E R hx hy h
  unfold divD at h
  split at h
  · cases hx; cases hy
    split at h
    · rename_i hc
      exact ⟨_, _, rfl, rfl, CDivW_of hc.1 hc.2, Fin.now h R (.int _)⟩
    · exact h.elim
  · exact h.elim
theorem sim_cmp {K : PySem.W.Frag} (g : Int → Int → Bool) : SimO2 K (rI0 fun i j => .bl (g i j)) (cmpD g) := by
  intro w H s x y d e Q E R hx hy h
  unfold cmpD at h
  split at h
  · cases hx; cases hy
    exact ⟨_, _, rfl, rfl, Fin.now h R (.bl _)⟩
  · exact h.elim
theorem om_lt : OpM X (compareOp .Lt) ltD := ⟨_, op_lt, sim_cmp _⟩
theorem om_le : OpM X (compareOp .LtE) leD := ⟨_, op_le, sim_cmp _⟩
theorem om_gt : OpM X (compareOp .Gt) gtD := ⟨_, op_gt, sim_cmp _⟩
theorem om_ge : OpM X (compareOp .GtE) geD := ⟨_, op_ge, sim_cmp _⟩
end
/-! ## data compared -/
mutual
def py : Dx → PyData
  | .non => .none
  | .bl b => .bool b
  | .int i => .int i
  | .str z => .str (tS z)
  | .tup xs => .tuple (pyL xs)
  | .lst xs => .list (pyL xs)
  | .fro xs => .list (pyL xs)
  | _ => .dict []
def pyL : List Dx → List PyData
  | [] => []
  | x :: xs => py x :: pyL xs
end
theorem all_cons {n : Nat} {x : Dx} {xs : List Dx} (h : ((x :: xs).all (shp n)) = true) : shp n x = true ∧ (xs.all (shp n)) = true := by
  simpa using h
theorem shp_tup {n : Nat} {xs : List Dx} (h : shp n (.tup xs) = true) : ∃ m, n = m + 1 ∧ (xs.all (shp m)) = true := by
  cases n with
  | zero => simp [shp] at h
  | succ m => exact ⟨m, rfl, by simpa [shp] using h⟩
theorem shp_lst {n : Nat} {xs : List Dx} (h : shp n (.lst xs) = true) : ∃ m, n = m + 1 ∧ (xs.all (shp m)) = true := by
  cases n with
  | zero => simp [shp] at h
  | succ m => exact ⟨m, rfl, by simpa [shp] using h⟩
theorem shp_fro {n : Nat} {xs : List Dx} (h : shp n (.fro xs) = true) : ∃ m, n = m + 1 ∧ (xs.all (shp m)) = true := by
  cases n with
  | zero => simp [shp] at h
  | succ m => exact ⟨m, rfl, by simpa [shp] using h⟩
theorem shp_no {n : Nat} {d : Dx} (h : shp n d = true) : (∀ C fs, d ≠ .obj C fs) ∧ (∀ m, d ≠ .cell m) ∧ (∀ C, d ≠ .cls C) ∧ (∀ b, d ≠ .ty b) ∧ d ≠ .dct := by
  refine ⟨?_, ?_, ?_, ?_, ?_⟩ <;> intros <;> rintro rfl <;> simp [shp] at h
section
variable {K : PySem.W.Frag} {r : List Addr} {G : Hp}
mutual
theorem Rv.dp : ∀ {v : V} {d : Dx}, Rv K r G v d → ∀ {n : Nat}, shp n d = true → Dp K G v (py d) ∧ (py d).canLay0 = true ∧ (py d).depth ≤ n
  | _, _, .non, n, _ => ⟨.non, rfl, Nat.zero_le _⟩
  | _, _, .bl b, n, _ => ⟨.bl b, rfl, Nat.zero_le _⟩
  | _, _, .int i, n, _ => ⟨.int i, rfl, Nat.zero_le _⟩
  | _, _, .str h, n, _ => ⟨.str _, by
      show PyData.strOk _ = true
      unfold PyData.strOk tS
      rw [Array.all_eq_true']
      intro c hc
      exact decide_eq_true (h c (by simpa using hc)), Nat.zero_le _⟩
  | _, _, .tup h l, n, k => by
    obtain ⟨m, rfl, k⟩ := shp_tup k
    obtain ⟨a, b, c⟩ := l.dp k
    exact ⟨.tup h a, b, Nat.succ_le_succ c⟩
  | _, _, .lst h l, n, k => by
    obtain ⟨m, rfl, k⟩ := shp_lst k
    obtain ⟨a, b, c⟩ := l.dp k
    exact ⟨.lst (SqL.of h) a, b, Nat.succ_le_succ c⟩
  | _, _, .fro h l, n, k => by
    obtain ⟨m, rfl, k⟩ := shp_fro k
    obtain ⟨a, b, c⟩ := l.dp k
    exact ⟨.lst h a, b, Nat.succ_le_succ c⟩
  | _, _, .dct h, n, k => absurd rfl (shp_no k).2.2.2.2
  | _, _, .obj h m f l, n, k => absurd rfl ((shp_no k).1 _ _)
  | _, _, .cell h, n, k => absurd rfl ((shp_no k).2.1 _)
  | _, _, .cls, n, k => absurd rfl ((shp_no k).2.2.1 _)
  | _, _, .ty, n, k => absurd rfl ((shp_no k).2.2.2.1 _)
  | _, _, .unk, n, k => by cases n <;> simp [shp] at k
theorem RvL.dp : ∀ {v : List V} {d : List Dx}, RvL K r G v d → ∀ {n : Nat}, (d.all (shp n)) = true → DpAll K G v (pyL d) ∧ PyData.canLayAll0 (pyL d) = true ∧ PyData.depthAll (pyL d) ≤ n
  | _, _, .nil, n, _ => ⟨.nil, rfl, Nat.zero_le _⟩
  | _, _, .cons h l, n, k => by
    obtain ⟨k1, k2⟩ := all_cons k
    obtain ⟨a1, b1, c1⟩ := h.dp k1
    obtain ⟨a2, b2, c2⟩ := l.dp k2
    exact ⟨.cons a1 a2, by show (_ && _) = true; rw [b1, b2]; rfl, Nat.max_le.mpr ⟨c1, c2⟩⟩
end
end
mutual
theorem eqv_py : ∀ (x y : Dx) (n m : Nat), shp n x = true → shp m y = true → PyData.eqv (py x) (py y) = eqv x y
  | .tup xs, .tup ys, n, m, h, k => by
    obtain ⟨n, rfl, h⟩ := shp_tup h
    obtain ⟨m, rfl, k⟩ := shp_tup k
    simpa [py, PyData.eqv, eqv] using eqvL_py xs ys n m h k
  | .lst xs, .lst ys, n, m, h, k => by
    obtain ⟨n, rfl, h⟩ := shp_lst h
    obtain ⟨m, rfl, k⟩ := shp_lst k
    simpa [py, PyData.eqv, eqv] using eqvL_py xs ys n m h k
  | .lst xs, .fro ys, n, m, h, k => by
    obtain ⟨n, rfl, h⟩ := shp_lst h
    obtain ⟨m, rfl, k⟩ := shp_fro k
    simpa [py, PyData.eqv, eqv] using eqvL_py xs ys n m h k
  | .fro xs, .lst ys, n, m, h, k => by
    obtain ⟨n, rfl, h⟩ := shp_fro h
    obtain ⟨m, rfl, k⟩ := shp_lst k
    simpa [py, PyData.eqv, eqv] using eqvL_py xs ys n m h k
  | .fro xs, .fro ys, n, m, h, k => by
    obtain ⟨n, rfl, h⟩ := shp_fro h
    obtain ⟨m, rfl, k⟩ := shp_fro k
    simpa [py, PyData.eqv, eqv] using eqvL_py xs ys n m h k
  | .str a, .str b, n, m, _, _ => by
    simp only [py, PyData.eqv, eqv]
    rw [Bool.eq_iff_iff]
    simp only [beq_iff_eq, decide_eq_true_eq]
    exact ⟨tS_inj, fun z => by rw [z]⟩
  | .int a, .int b, _, _, _, _ => by
    simp only [py, PyData.eqv, eqv]
    rw [Bool.eq_iff_iff]
    simp
  | .non, y, _, _, _, k => by cases y <;> first | rfl | (simp [shp] at k)
  | .bl a, y, _, _, _, k => by cases y <;> first | rfl | (simp [shp] at k)
  | .int a, .non, _, _, _, _ => rfl
  | .int a, .bl b, _, _, _, _ => rfl
  | .int a, .str b, _, _, _, _ => rfl
  | .int a, .tup b, _, _, _, _ => rfl
  | .int a, .lst b, _, _, _, _ => rfl
  | .int a, .fro b, _, _, _, _ => rfl
  | .int a, .dct, _, _, _, k => by simp [shp] at k
  | .int a, .obj _ _, _, _, _, k => by simp [shp] at k
  | .int a, .cell _, _, _, _, k => by simp [shp] at k
  | .int a, .cls _, _, _, _, k => by simp [shp] at k
  | .int a, .ty _, _, _, _, k => by simp [shp] at k
  | .int a, .unk, _, _, _, k => by simp [shp] at k
  | .str a, .non, _, _, _, _ => rfl
  | .str a, .bl b, _, _, _, _ => rfl
  | .str a, .int b, _, _, _, _ => rfl
  | .str a, .tup b, _, _, _, _ => rfl
  | .str a, .lst b, _, _, _, _ => rfl
  | .str a, .fro b, _, _, _, _ => rfl
  | .str a, .dct, _, _, _, k => by simp [shp] at k
  | .str a, .obj _ _, _, _, _, k => by simp [shp] at k
  | .str a, .cell _, _, _, _, k => by simp [shp] at k
  | .str a, .cls _, _, _, _, k => by simp [shp] at k
  | .str a, .ty _, _, _, _, k => by simp [shp] at k
  | .str a, .unk, _, _, _, k => by simp [shp] at k
  | .tup a, .non, _, _, _, _ => rfl
  | .tup a, .bl b, _, _, _, _ => rfl
  | .tup a, .int b, _, _, _, _ => rfl
  | .tup a, .str b, _, _, _, _ => rfl
  | .tup a, .lst b, _, _, _, _ => rfl
  | .tup a, .fro b, _, _, _, _ => rfl
  | .tup a, .dct, _, _, _, k => by simp [shp] at k
  | .tup a, .obj _ _, _, _, _, k => by simp [shp] at k
  | .tup a, .cell _, _, _, _, k => by simp [shp] at k
  | .tup a, .cls _, _, _, _, k => by simp [shp] at k
  | .tup a, .ty _, _, _, _, k => by simp [shp] at k
  | .tup a, .unk, _, _, _, k => by simp [shp] at k
  | .lst a, .non, _, _, _, _ => rfl
  | .lst a, .bl b, _, _, _, _ => rfl
  | .lst a, .int b, _, _, _, _ => rfl
  | .lst a, .str b, _, _, _, _ => rfl
  | .lst a, .tup b, _, _, _, _ => rfl
  | .lst a, .dct, _, _, _, k => by simp [shp] at k
  | .lst a, .obj _ _, _, _, _, k => by simp [shp] at k
  | .lst a, .cell _, _, _, _, k => by simp [shp] at k
  | .lst a, .cls _, _, _, _, k => by simp [shp] at k
  | .lst a, .ty _, _, _, _, k => by simp [shp] at k
  | .lst a, .unk, _, _, _, k => by simp [shp] at k
  | .fro a, .non, _, _, _, _ => rfl
  | .fro a, .bl b, _, _, _, _ => rfl
  | .fro a, .int b, _, _, _, _ => rfl
  | .fro a, .str b, _, _, _, _ => rfl
  | .fro a, .tup b, _, _, _, _ => rfl
  | .fro a, .dct, _, _, _, k => by simp [shp] at k
  | .fro a, .obj _ _, _, _, _, k => by simp [shp] at k
  | .fro a, .cell _, _, _, _, k => by simp [shp] at k
  | .fro a, .cls _, _, _, _, k => by simp [shp] at k
  | .fro a, .ty _, _, _, _, k => by simp [shp] at k
  | .fro a, .unk, _, _, _, k => by simp [shp] at k
  | .dct, _, _, _, h, _ => by simp [shp] at h
  | .obj _ _, _, _, _, h, _ => by simp [shp] at h
  | .cell _, _, _, _, h, _ => by simp [shp] at h
  | .cls _, _, _, _, h, _ => by simp [shp] at h
  | .ty _, _, _, _, h, _ => by simp [shp] at h
  | .unk, _, _, _, h, _ => by simp [shp] at h
theorem eqvL_py : ∀ (xs ys : List Dx) (n m : Nat), (xs.all (shp n)) = true → (ys.all (shp m)) = true → PyData.eqvAll (pyL xs) (pyL ys) = eqvL xs ys
  | [], [], _, _, _, _ => rfl
  | [], _ :: _, _, _, _, _ => rfl
  | _ :: _, [], _, _, _, _ => rfl
  | x :: xs, y :: ys, n, m, h, k => by
    obtain ⟨h1, h2⟩ := all_cons h
    obtain ⟨k1, k2⟩ := all_cons k
    show (PyData.eqv (py x) (py y) && PyData.eqvAll (pyL xs) (pyL ys)) = (eqv x y && eqvL xs ys)
    rw [eqv_py x y n m h1 k1, eqvL_py xs ys n m h2 k2]
end
mutual
theorem Dp.same {K : PySem.W.Frag} {G G' : Hp} (s : Same G G') : ∀ {v : V} {d : PyData}, Dp K G v d → Dp K G' v d
  | _, _, .non => .non
  | _, _, .bl b => .bl b
  | _, _, .int i => .int i
  | _, _, .str z => .str z
  | _, _, .lst h l => .lst (seqL_same s h) (DpAll.same s l)
  | _, _, .tup h l => .tup (seqT_same s h) (DpAll.same s l)
theorem DpAll.same {K : PySem.W.Frag} {G G' : Hp} (s : Same G G') : ∀ {v : List V} {d : List PyData}, DpAll K G v d → DpAll K G' v d
  | _, _, .nil => .nil
  | _, _, .cons h l => .cons (Dp.same s h) (DpAll.same s l)
end
section
variable {K : PySem.W.Frag} {w : Wd} {H : Hp} {s : Sto}
theorem Rv.res (R : Rel K w H s) {v : V} {d : Dx} (h : Rv K w.r (w.G H) v d) {n : Nat} (k : shp n (Pm.res s d) = true) : Dp K H v (py (Pm.res s d)) ∧ SeqAt.shaped (py (Pm.res s d)) = true ∨ 64 < n := by
  by_cases hn : 64 < n
  · exact .inr hn
  left
  have fin : ∀ {d : Dx}, shp n d = true → Dp K H v (py d) ∧ (py d).canLay0 = true ∧ (py d).depth ≤ n → Dp K H v (py d) ∧ SeqAt.shaped (py d) = true := fun _ ⟨a, b, c⟩ => by
    refine ⟨a, ?_⟩
    unfold SeqAt.shaped
    rw [b, decide_eq_true (by omega)]
    rfl
  refine fin k ?_
  by_cases hc : ∃ m, d = .cell m
  · obtain ⟨m, rfl⟩ := hc
    cases h with
    | cell h =>
      have e : ∃ xs, s[m]? = some (.lst xs) ∧ Pm.res s (.cell m) = .lst xs := by
        cases hs : s[m]? with
        | none => simp [Pm.res, hs, shp] at k
        | some c =>
          cases c with
          | lst xs => exact ⟨xs, rfl, by simp [Pm.res, hs]⟩
          | obj C fs => simp [Pm.res, hs, shp] at k
          | tbl _ => simp [Pm.res, hs, shp] at k
          | fn => simp [Pm.res, hs, shp] at k
      obtain ⟨xs, hx, e⟩ := e
      rw [e] at k ⊢
      obtain ⟨o, h1, h2⟩ := R.at_ h hx
      obtain ⟨n, rfl, k⟩ := shp_lst k
      cases h2 with
      | lst l =>
        obtain ⟨a, b, c⟩ := l.dp k
        exact ⟨.lst (SqL.of h1) (DpAll.same hid_same a), b, Nat.succ_le_succ c⟩
  · have e : Pm.res s d = d := by
      cases d <;> first | rfl | exact absurd ⟨_, rfl⟩ hc
    rw [e] at k ⊢
    obtain ⟨a, b, c⟩ := h.dp k
    exact ⟨Dp.same hid_same a, b, c⟩
end
section
variable {X : Cx}
theorem om_eq (hu : X.A.units + 64 < cLine) : OpM X (compareOp .Eq) eqD := by
  refine ⟨_, op_eqD hu, ?_⟩
  intro w H s x y d e Q E R hx hy h
  unfold eqD at h
  split at h
  · rename_i hc
    simp only [Bool.and_eq_true] at hc
    rcases hx.res R hc.1 with ⟨a1, b1⟩ | z
    · rcases hy.res R hc.2 with ⟨a2, b2⟩ | z
      · refine ⟨_, _, a1, a2, b1, b2, ?_⟩
        rw [eqv_py _ _ _ _ hc.1 hc.2]
        exact Fin.now h R (.bl _)
      · omega
    · omega
  · exact h.elim
theorem om_ne (hu : X.A.units + 64 < cLine) : OpM X (compareOp .NotEq) neD := by
  refine ⟨_, op_neD hu, ?_⟩
  intro w H s x y d e Q E R hx hy h
  unfold neD at h
  split at h
  · rename_i hc
    simp only [Bool.and_eq_true] at hc
    rcases hx.res R hc.1 with ⟨a1, b1⟩ | z
    · rcases hy.res R hc.2 with ⟨a2, b2⟩ | z
      · refine ⟨_, _, a1, a2, b1, b2, ?_⟩
        rw [eqv_py _ _ _ _ hc.1 hc.2]
        exact Fin.now h R (.bl _)
      · omega
    · omega
  · exact h.elim
theorem om_isN : OpM X (compareOp .Is) isND := by
  refine ⟨_, op_isN, ?_⟩
  intro w H s x y d e Q E R hx hy h
  cases hy
  case non =>
    refine ⟨rfl, ?_⟩
    cases hx <;> first | exact h.elim | exact Fin.now (v := .bl _) h R (by first | exact .bl true | exact .bl false)
  all_goals (cases d <;> exact h.elim)
theorem om_notN : OpM X (compareOp .IsNot) notND := by
  refine ⟨_, op_notN, ?_⟩
  intro w H s x y d e Q E R hx hy h
  cases hy
  case non =>
    refine ⟨rfl, ?_⟩
    cases hx <;> first | exact h.elim | exact Fin.now (v := .bl _) h R (by first | exact .bl true | exact .bl false)
  all_goals (cases d <;> exact h.elim)
theorem om_isB : OpM X (compareOp .Is) isBD := by
  refine ⟨_, op_isBl, ?_⟩
  intro w H s x y d e Q E R hx hy h
  unfold isBD at h
  split at h
  · cases hx; cases hy
    refine ⟨_, _, rfl, rfl, ?_⟩
    rw [← Bool.beq_eq_decide_eq]
    exact Fin.now h R (.bl _)
  · exact h.elim
end
end Ps

/-! # soundness: more operators, built-ins -/
namespace Ps
open PySem PySem.Spec PyProof.Rows L2 Vs He Pm
section
variable {K : PySem.W.Frag} {w : Wd} {H : Hp} {s : Sto}
theorem flat_V {r : List Addr} {G : Hp} {v : V} {d : Dx} (h : Rv K r G v d) (f : flat d = true) : flatV v = true := by
  cases h <;> first | rfl | (simp [flat] at f)
theorem eq_flat {r : List Addr} {G : Hp} {v u : V} {d e : Dx} (h : Rv K r G v d) (k : Rv K r G u e) (f : flat d = true) (g : flat e = true) : eqV v u = eqv d e := by
  cases h <;> first | (simp [flat] at f; done) | skip
  all_goals cases k <;> first | (simp [flat] at g; done) | rfl | skip
  all_goals simp only [eqV, eqv]
  all_goals rw [Bool.eq_iff_iff]
  all_goals simp
  exact ⟨tS_inj, fun z => by rw [z]⟩
theorem all_flat {r : List Addr} {G : Hp} : ∀ {vs : List V} {ds : List Dx}, RvL K r G vs ds → ds.all flat = true → vs.all flatV = true
  | _, _, .nil, _ => rfl
  | _, _, .cons h l, k => by
    simp only [List.all_cons, Bool.and_eq_true] at k ⊢
    exact ⟨flat_V h k.1, all_flat l k.2⟩
theorem in_flat {r : List Addr} {G : Hp} {v : V} {d : Dx} (h : Rv K r G v d) (f : flat d = true) : ∀ {vs : List V} {ds : List Dx}, RvL K r G vs ds → ds.all flat = true → inV v vs = ds.any fun y => eqv y d
  | _, _, .nil, _ => rfl
  | _, _, .cons k l, g => by
    simp only [List.all_cons, Bool.and_eq_true] at g
    show (eqV _ v || inV v _) = (eqv _ d || List.any _ _)
    rw [eq_flat k h g.1 f, in_flat h f l g.2]
theorem atI_py {α : Type} (xs : List α) (i : Int) : atI xs i = pyIx xs i := by
  unfold atI ixN pyIx
  by_cases h : 0 ≤ i
  · rw [if_pos h, if_pos h]
    by_cases h2 : i < xs.length
    · rw [if_pos h2]; rfl
    · rw [if_neg h2]
      exact (List.getElem?_eq_none (by omega)).symm
  · rw [if_neg h, if_neg h]
    by_cases h2 : -(xs.length : Int) ≤ i
    · rw [if_pos h2, if_pos h2]; rfl
    · rw [if_neg h2, if_neg h2]; rfl
theorem RvL.ix {r : List Addr} {G : Hp} {vs : List V} {ds : List Dx} (l : RvL K r G vs ds) {i : Int} {d : Dx} (h : pyIx ds i = some d) : ∃ v, pyIx vs i = some v ∧ Rv K r G v d := by
  unfold pyIx at h ⊢
  by_cases h0 : 0 ≤ i
  · rw [if_pos h0] at h ⊢; exact l.at_ h
  · rw [if_neg h0] at h ⊢
    by_cases h1 : -(ds.length : Int) ≤ i
    · rw [if_pos h1] at h
      rw [l.len, if_pos h1]; exact l.at_ h
    · rw [if_neg h1] at h; cases h
theorem sIx_eq (n d : Nat) (o : Option Int) : HT.sIx n d o = sIx n d o := by cases o <;> rfl
theorem RvL.cut {r : List Addr} {G : Hp} {vs : List V} {ds : List Dx} (l : RvL K r G vs ds) (lo hi : Option Int) : RvL K r G (cutV vs lo hi) (Pm.cut ds lo hi) := by
  unfold cutV Pm.cut
  rw [l.len, sIx_eq, sIx_eq]
  exact (l.drop _).take _
theorem cutS_eq (z : Tx) (lo hi : Option Int) : cutS (tS z) lo hi = tS (Pm.cut z lo hi) := by
  unfold cutS Pm.cut
  rw [tS_l, tS_len, sIx_eq, sIx_eq]
  rfl
theorem okT_cut {z : Tx} (h : okT z) (lo hi : Option Int) : okT (Pm.cut z lo hi) := fun c hc => h c (List.mem_of_mem_drop (List.mem_of_mem_take hc))
end
section
variable {X : Cx}
theorem om_in : OpM X (compareOp .In) (inD false) := by
  refine ⟨_, op_in_seq.or op_in_sign, ?_⟩
  intro w H s x y d e Q E R hx hy h
  unfold inD at h
  split at h
  · cases hy with | str hy =>
    split at h
    · cases hx with | str hx =>
      refine .inr ⟨_, _, rfl, rfl, ?_⟩
      rw [tS_l]
      have h2 := Fin.now h R (.bl _)
      simpa using h2
    · exact h.elim
  · split at h
    · rename_i ys hq
      obtain ⟨a, vs, rfl, h1, l⟩ := hy.asQ R hq
      split at h
      · rename_i hf
        simp only [Bool.and_eq_true] at hf
        refine .inl ⟨a, vs, rfl, h1, flat_V hx hf.1, all_flat l hf.2, ?_⟩
        rw [in_flat hx hf.1 l hf.2]
        have h2 := Fin.now h R (.bl _)
        simpa using h2
      · exact h.elim
    · exact h.elim
theorem om_notIn : OpM X (compareOp .NotIn) (inD true) := by
  refine ⟨_, op_notIn_seq.or op_notIn_sign, ?_⟩
  intro w H s x y d e Q E R hx hy h
  unfold inD at h
  split at h
  · cases hy with | str hy =>
    split at h
    · cases hx with | str hx =>
      refine .inr ⟨_, _, rfl, rfl, ?_⟩
      rw [tS_l]
      have h2 := Fin.now h R (.bl _)
      simpa using h2
    · exact h.elim
  · split at h
    · rename_i ys hq
      obtain ⟨a, vs, rfl, h1, l⟩ := hy.asQ R hq
      split at h
      · rename_i hf
        simp only [Bool.and_eq_true] at hf
        refine .inl ⟨a, vs, rfl, h1, flat_V hx hf.1, all_flat l hf.2, ?_⟩
        rw [in_flat hx hf.1 l hf.2]
        have h2 := Fin.now h R (.bl _)
        simpa using h2
      · exact h.elim
    · exact h.elim
/-- items -/
def IxM (X : Cx) (f : O2) : Prop := ∃ r, IxR X r ∧ SimO2 X.K r f
theorem xm_ix : IxM X ixD := by
  refine ⟨_, ix_seq, ?_⟩
  intro w H s x y d e Q E R hx hy h
  unfold ixD at h
  split at h
  · cases hy
    split at h
    · cases hx with | str hx =>
      split at h
      · rename_i z c hc
        split at h
        · rename_i hl
          refine .inr (.inr ⟨_, _, c, rfl, rfl, by rw [tS_len]; exact most_le hl, by rw [tS_l, atI_py]; exact hc, ?_⟩)
          refine Fin.now h R (.str ?_)
          intro c' hc'
          rw [List.mem_singleton] at hc'
          subst hc'
          unfold pyIx at hc
          split at hc
          · exact hx _ (List.mem_of_getElem? hc)
          · split at hc
            · exact hx _ (List.mem_of_getElem? hc)
            · cases hc
        · exact h.elim
      · exact h.elim
    · split at h
      · rename_i xs hq
        split at h
        · rename_i u hu
          obtain ⟨a, vs, rfl, h1, l⟩ := hx.asQ R hq
          obtain ⟨v, hv, rv⟩ := l.ix hu
          rcases h1 with h1 | h1
          · exact .inl ⟨a, vs, _, v, rfl, rfl, h1, by rw [atI_py]; exact hv, Fin.now h R rv⟩
          · exact .inr (.inl ⟨a, vs, _, v, rfl, rfl, h1, by rw [atI_py]; exact hv, Fin.now h R rv⟩)
        · exact h.elim
      · exact h.elim
  · exact h.elim
/-- slices -/
def SlM (X : Cx) (f : Dx → Option Int → Option Int → Sto → R Dx) : Prop := ∃ r, SlR X r ∧ ∀ w H s x d lo hi Q E, Rel X.K w H s → Rv X.K w.r (w.G H) x d → Fin X.K w H (Rv X.K) Q E (f d lo hi s) → r x lo hi H Q
theorem zm_sl : SlM X slD := by
  refine ⟨_, sl_list.or (sl_tup.or sl_str), ?_⟩
  intro w H s x d lo hi Q E R hx h
  unfold slD at h
  split at h
  · cases hx with | str hx =>
    split at h
    · rename_i hl
      exact .inr (.inr ⟨_, rfl, by rw [tS_len]; exact most_le hl, by rw [cutS_eq]; exact Fin.now h R (.str (okT_cut hx _ _))⟩)
    · exact h.elim
  · cases hx with | tup hx l =>
    split at h
    · exact h.elim
    · rename_i hn
      exact .inr (.inl ⟨_, _, rfl, seqT_same hid_same hx, by rw [l.len, sIx_eq, sIx_eq]; exact hn, fun q n => Fin.treeT h R (l.cut _ _) n⟩)
  · split at h
    · rename_i xs hq
      obtain ⟨a, vs, rfl, h1, l⟩ := hx.asL R hq
      exact .inl ⟨a, vs, rfl, h1, fun q n => Fin.tree h R (l.cut _ _) n⟩
    · exact h.elim
theorem zm_slC : SlM X slC := by
  refine ⟨_, sl_list, ?_⟩
  intro w H s x d lo hi Q E R hx h
  unfold slC at h
  split at h
  · rename_i xs hq
    obtain ⟨a, vs, rfl, h1, l⟩ := hx.asL R hq
    exact ⟨a, vs, rfl, h1, fun q n => Fin.newL (c := true) h R (l.cut _ _) n⟩
  · exact h.elim
/-! ## built-ins -/
theorem cm_len : CallM X (.builtin "len") lenD := by
  refine ⟨_, call_len_seq.or call_len_str, ?_⟩
  intro w H s xs ds Q E R hx h
  unfold lenD at h
  split at h
  · cases hx with | cons hx l =>
    cases l
    cases hx with | str hx =>
    split at h
    · rename_i hl
      exact .inr ⟨_, rfl, by rw [tS_len]; exact most_le hl, by rw [tS_len]; exact Fin.now h R (.int _)⟩
    · exact h.elim
  · cases hx with | cons hx l =>
    cases l
    split at h
    · rename_i hq
      obtain ⟨a, vs, rfl, h1, l⟩ := hx.asQ R hq
      exact .inl ⟨a, vs, rfl, h1, by rw [l.len]; exact Fin.now h R (.int _)⟩
    · exact h.elim
  · exact h.elim
theorem cm_min2 (hc : X.calm = true) : CallM X (.builtin "min") min2D := by
  refine ⟨_, call_min2 hc, ?_⟩
  intro w H s xs ds Q E R hx h
  unfold min2D at h
  split at h
  · cases hx with | cons hx l => cases l with | cons hy l =>
    cases l; cases hx; cases hy
    exact ⟨_, _, rfl, Fin.now h R (.int _)⟩
  · exact h.elim
theorem cm_max2 (hc : X.calm = true) : CallM X (.builtin "max") max2D := by
  refine ⟨_, call_max2 hc, ?_⟩
  intro w H s xs ds Q E R hx h
  unfold max2D at h
  split at h
  · cases hx with | cons hx l => cases l with | cons hy l =>
    cases l; cases hx; cases hy
    exact ⟨_, _, rfl, Fin.now h R (.int _)⟩
  · exact h.elim
theorem cm_divmod : CallM X (.builtin "divmod") divmodD := by
  refine ⟨_, call_divmod, ?_⟩
  intro w H s xs ds Q E R hx h
  unfold divmodD at h
  split at h
  · cases hx with | cons hx l => cases l with | cons hy l =>
    cases l; cases hx; cases hy
    split at h
    · rename_i hc
      exact ⟨_, _, rfl, ⟨hc.1, hc.2⟩, fun q n => Fin.treeT h R (.cons (.int _) (.cons (.int _) .nil)) n⟩
    · exact h.elim
  · exact h.elim
theorem cm_int : CallM X (.type "int") toIntD := by
  refine ⟨_, call_int1, ?_⟩
  intro w H s xs ds Q E R hx h
  unfold toIntD at h
  split at h
  · cases hx with | cons hx l =>
    cases l; cases hx
    exact .inl ⟨_, rfl, Fin.now h R (.int _)⟩
  · cases hx with | cons hx l =>
    cases l; cases hx
    exact .inr ⟨_, rfl, Fin.now h R (.int _)⟩
  · exact h.elim
theorem log2_small {i : Int} (h : -(10 ^ 100) ≤ i ∧ i ≤ 10 ^ 100) : i.natAbs.log2 < 1920 := by
  refine PySem.Flt.log2_lt_of (by decide) ?_
  have h1 : i.natAbs ≤ 10 ^ 100 := by omega
  exact Nat.lt_of_le_of_lt h1 (by decide)
theorem cm_str : CallM X (.type "str") strD := by
  refine ⟨_, call_str_int, ?_⟩
  intro w H s xs ds Q E R hx h
  unfold strD at h
  split at h
  · cases hx with | cons hx l =>
    cases l; cases hx
    split at h
    · rename_i hc
      refine ⟨_, rfl, log2_small hc, ?_⟩
      have h2 := Fin.now h R (.str (okT_tx _))
      unfold txI at h2
      rw [← tS_tx] at h2
      exact h2
    · exact h.elim
  · exact h.elim
end
section
variable {K : PySem.W.Frag} {r : List Addr} {G : Hp}
theorem RvL.bools : ∀ {vs : List V} {ds : List Dx} {l : List Bool}, RvL K r G vs ds → Pm.dBools ds = some l → vs = l.map V.bl
  | _, _, _, .nil, h => by cases h; rfl
  | _, _, _, .cons (d := .bl b) hx l, h => by
    cases hx
    simp only [Pm.dBools, Option.map_eq_some_iff] at h
    obtain ⟨l2, h1, rfl⟩ := h
    rw [List.map_cons, ← l.bools h1]
  | _, _, _, .cons (d := .non) _ _, h => by cases h
  | _, _, _, .cons (d := .int _) _ _, h => by cases h
  | _, _, _, .cons (d := .str _) _ _, h => by cases h
  | _, _, _, .cons (d := .tup _) _ _, h => by cases h
  | _, _, _, .cons (d := .lst _) _ _, h => by cases h
  | _, _, _, .cons (d := .fro _) _ _, h => by cases h
  | _, _, _, .cons (d := .dct) _ _, h => by cases h
  | _, _, _, .cons (d := .obj _ _) _ _, h => by cases h
  | _, _, _, .cons (d := .cell _) _ _, h => by cases h
  | _, _, _, .cons (d := .cls _) _ _, h => by cases h
  | _, _, _, .cons (d := .ty _) _ _, h => by cases h
theorem RvL.intsE : ∀ {vs : List V} {ds : List Dx} {l : List Int}, RvL K r G vs ds → Pm.dInts ds = some l → vs = l.map V.int
  | _, _, _, .nil, h => by cases h; rfl
  | _, _, _, .cons (d := .int b) hx l, h => by
    cases hx
    simp only [Pm.dInts, Option.map_eq_some_iff] at h
    obtain ⟨l2, h1, rfl⟩ := h
    rw [List.map_cons, ← l.intsE h1]
  | _, _, _, .cons (d := .non) _ _, h => by cases h
  | _, _, _, .cons (d := .bl _) _ _, h => by cases h
  | _, _, _, .cons (d := .str _) _ _, h => by cases h
  | _, _, _, .cons (d := .tup _) _ _, h => by cases h
  | _, _, _, .cons (d := .lst _) _ _, h => by cases h
  | _, _, _, .cons (d := .fro _) _ _, h => by cases h
  | _, _, _, .cons (d := .dct) _ _, h => by cases h
  | _, _, _, .cons (d := .obj _ _) _ _, h => by cases h
  | _, _, _, .cons (d := .cell _) _ _, h => by cases h
  | _, _, _, .cons (d := .cls _) _ _, h => by cases h
  | _, _, _, .cons (d := .ty _) _ _, h => by cases h
theorem RvL.strsE : ∀ {vs : List V} {ds : List Dx} {l : List Tx}, RvL K r G vs ds → Pm.dStrs ds = some l → vs = (l.map tS).map V.str ∧ ∀ z ∈ l, okT z
  | _, _, _, .nil, h => by cases h; exact ⟨rfl, fun z hz => by cases hz⟩
  | _, _, _, .cons (d := .str b) hx l, h => by
    cases hx with | str hx =>
    simp only [Pm.dStrs, Option.map_eq_some_iff] at h
    obtain ⟨l2, h1, rfl⟩ := h
    obtain ⟨e, k⟩ := l.strsE h1
    exact ⟨by rw [List.map_cons, List.map_cons, ← e], fun z hz => (List.mem_cons.mp hz).elim (fun q => q ▸ hx) (k z)⟩
  | _, _, _, .cons (d := .non) _ _, h => by cases h
  | _, _, _, .cons (d := .bl _) _ _, h => by cases h
  | _, _, _, .cons (d := .int _) _ _, h => by cases h
  | _, _, _, .cons (d := .tup _) _ _, h => by cases h
  | _, _, _, .cons (d := .lst _) _ _, h => by cases h
  | _, _, _, .cons (d := .fro _) _ _, h => by cases h
  | _, _, _, .cons (d := .dct) _ _, h => by cases h
  | _, _, _, .cons (d := .obj _ _) _ _, h => by cases h
  | _, _, _, .cons (d := .cell _) _ _, h => by cases h
  | _, _, _, .cons (d := .cls _) _ _, h => by cases h
  | _, _, _, .cons (d := .ty _) _ _, h => by cases h
end
section
variable {X : Cx}
theorem cm_all (hc : X.calm = true) : CallM X (.builtin "all") allD := by
  refine ⟨_, cr_all hc, ?_⟩
  intro w H s xs ds Q E R hx h
  unfold allD at h
  split at h
  · cases hx with | cons hx l =>
    cases l
    split at h
    · rename_i hq
      obtain ⟨ys, h1, h2⟩ := Option.bind_eq_some_iff.mp hq
      obtain ⟨a, vs, rfl, h3, l⟩ := hx.asL R h1
      have e := l.bools h2
      subst e
      exact ⟨a, _, rfl, h3, Fin.now h R (.bl _)⟩
    · exact h.elim
  · exact h.elim
theorem cm_any (hc : X.calm = true) : CallM X (.builtin "any") anyD := by
  refine ⟨_, cr_any hc, ?_⟩
  intro w H s xs ds Q E R hx h
  unfold anyD at h
  split at h
  · cases hx with | cons hx l =>
    cases l
    split at h
    · rename_i hq
      obtain ⟨ys, h1, h2⟩ := Option.bind_eq_some_iff.mp hq
      obtain ⟨a, vs, rfl, h3, l⟩ := hx.asL R h1
      have e := l.bools h2
      subst e
      exact ⟨a, _, rfl, h3, Fin.now h R (.bl _)⟩
    · exact h.elim
  · exact h.elim
theorem cm_sum (hc : X.calm = true) : CallM X (.builtin "sum") sumD := by
  refine ⟨_, cr_sum hc, ?_⟩
  intro w H s xs ds Q E R hx h
  unfold sumD at h
  split at h
  · cases hx with | cons hx l =>
    cases l
    split at h
    · rename_i hq
      obtain ⟨ys, h1, h2⟩ := Option.bind_eq_some_iff.mp hq
      obtain ⟨a, vs, rfl, h3, l⟩ := hx.asL R h1
      have e := l.intsE h2
      subst e
      exact ⟨a, _, rfl, h3, Fin.now h R (.int _)⟩
    · exact h.elim
  · exact h.elim
theorem leastOf_le {i : Int} {l : List Int} : leastOf i l ≤ i ∧ (∀ j ∈ l, leastOf i l ≤ j) ∧ (leastOf i l = i ∨ leastOf i l ∈ l) := by
  induction l generalizing i with
  | nil => exact ⟨Int.le_refl _, fun _ h => (nomatch h), .inl rfl⟩
  | cons j l ih =>
    obtain ⟨h1, h2, h3⟩ := @ih (if j < i then j else i)
    unfold leastOf
    by_cases hj : j < i
    · rw [if_pos hj] at h1 h2 h3 ⊢
      exact ⟨by omega, fun k hk => (List.mem_cons.mp hk).elim (fun e => e ▸ h1) (h2 k), h3.elim (fun e => .inr (by rw [e]; exact List.mem_cons_self)) fun e => .inr (List.mem_cons_of_mem _ e)⟩
    · rw [if_neg hj] at h1 h2 h3 ⊢
      exact ⟨h1, fun k hk => (List.mem_cons.mp hk).elim (fun e => e ▸ (by omega)) (h2 k), h3.elim .inl fun e => .inr (List.mem_cons_of_mem _ e)⟩
theorem cm_min (hc : X.calm = true) : CallM X (.builtin "min") minD := by
  refine ⟨_, cr_min hc, ?_⟩
  intro w H s xs ds Q E R hx h
  unfold minD at h
  split at h
  · cases hx with | cons hx l =>
    cases l
    split at h
    · rename_i i l hq
      obtain ⟨ys, h1, h2⟩ := Option.bind_eq_some_iff.mp hq
      obtain ⟨a, vs, rfl, h3, l'⟩ := hx.asL R h1
      have e := l'.intsE h2
      subst e
      refine ⟨a, _, rfl, h3, by simp, fun m hm hle => ?_⟩
      obtain ⟨g1, g2, g3⟩ := @leastOf_le i l
      have e : m = leastOf i l := by
        refine Int.le_antisymm (hle _ ?_) ?_
        · rcases g3 with g | g
          · rw [g]; exact List.mem_cons_self
          · exact List.mem_cons_of_mem _ g
        · rcases List.mem_cons.mp hm with rfl | hm
          · exact g1
          · exact g2 _ hm
      rw [e]
      exact Fin.now h R (.int _)
    · exact h.elim
  · exact h.elim
theorem cm_list (c : Bool) : CallM X (.type "list") (listD c) := by
  refine ⟨_, call_list_of, ?_⟩
  intro w H s xs ds Q E R hx h
  unfold listD at h
  split at h
  · cases hx with | cons hx l =>
    cases l
    split at h
    · rename_i hq
      obtain ⟨a, vs, rfl, h1, l⟩ := hx.asQ R hq
      exact ⟨a, vs, rfl, h1, fun q n => Fin.newL h R l n⟩
    · exact h.elim
  · exact h.elim
theorem cm_tup : CallM X (.type "tuple") tupD := by
  refine ⟨_, call_tuple_of, ?_⟩
  intro w H s xs ds Q E R hx h
  unfold tupD at h
  split at h
  · cases hx with | cons hx l =>
    cases l
    cases hx with | tup hx l =>
    exact ⟨_, _, rfl, .inr ⟨seqT_same hid_same hx, Fin.now h R (.tup hx l)⟩⟩
  · cases hx with | cons hx l =>
    cases l
    split at h
    · rename_i hq
      obtain ⟨a, vs, rfl, h1, l⟩ := hx.asL R hq
      exact ⟨a, vs, rfl, .inl ⟨h1, fun q n => Fin.treeT h R l n⟩⟩
    · exact h.elim
  · exact h.elim
theorem cnt_dcnt (zs : List Tx) : ∀ i, dcnt (zs.map tS) i = cntU zs i
  | 0 => rfl
  | i + 1 => by
    unfold dcnt cntU
    rw [List.getElem?_map]
    cases zs[i]? with
    | none => exact cnt_dcnt zs i
    | some z =>
      simp only [Option.map_some]
      have e : (tS z ∈ (zs.map tS).take i) = (z ∈ zs.take i) := by
        rw [← List.map_take]
        simp only [eq_iff_iff, List.mem_map]
        exact ⟨fun ⟨y, h1, h2⟩ => tS_inj h2 ▸ h1, fun h => ⟨z, h, rfl⟩⟩
      simp only [e, cnt_dcnt zs i]
end
end Ps

/-! # soundness: the rules of expressions -/
namespace Ps
open PySem PySem.Spec PyProof.Rows L2 Vs He Pm
abbrev Wn : WX := fun _ _ _ _ => False
abbrev cE (K : PySem.W.Frag) (p : Px) (W : WX) (m : ME) : TE := fun σ H Q => ∃ w e s, Rel K w H s ∧ RelE K p w H e σ ∧ Fin K w H (Rv K) Q (WE W σ) (m e s)
abbrev cA (K : PySem.W.Frag) (p : Px) (W : WX) (m : MA) : TA := fun σ H Q => ∃ w e s, Rel K w H s ∧ RelE K p w H e σ ∧ Fin K w H (RvL K) Q (WE W σ) (m e s)
abbrev cT (K : PySem.W.Frag) (p : Px) (W : WX) (m : MT) : TT := fun σ H Q => ∃ w e s, Rel K w H s ∧ RelE K p w H e σ ∧ Fin K w H relB Q (WE W σ) (m e s)
abbrev cO (K : PySem.W.Frag) (p : Px) (W : WX) (m : MO) : TO := fun σ H Q => ∃ w e s, Rel K w H s ∧ RelE K p w H e σ ∧ Fin K w H relO Q (WE W σ) (m e s)
section
variable {X : Cx}
theorem imE {e : Expr} {t u : TE} (i : ∀ σ H Q, u σ H Q → t σ H Q) (h : PE X e t) : PE X e u := ⟨fun pins s σ H Q I q => h.run pins s σ H Q I (i σ H Q q)⟩
theorem imT {e : Expr} {t u : TT} (i : ∀ σ H Q, u σ H Q → t σ H Q) (h : PT X e t) : PT X e u := ⟨fun pins s σ H Q I q => h.run pins s σ H Q I (i σ H Q q)⟩
theorem imW {e : Expr} {t u : TT} (i : ∀ σ H Q, u σ H Q → t σ H Q) (h : PW X e t) : PW X e u := ⟨fun whole pins s σ H Q I q => h.run whole pins s σ H Q I (i σ H Q q)⟩
theorem imTs {e : List Expr} {t u : TT} (i : ∀ σ H Q, u σ H Q → t σ H Q) (h : PTs X e t) : PTs X e u := ⟨fun pins s σ H Q I q => h.run pins s σ H Q I (i σ H Q q)⟩
theorem imA {es : List Expr} {t u : TA} (i : ∀ σ H Q, u σ H Q → t σ H Q) (h : PA X es t) : PA X es u := ⟨fun pos pins s σ H Q I q => h.run pos pins s σ H Q I (i σ H Q q)⟩
theorem imO {e : Option Expr} {t u : TO} (i : ∀ σ H Q, u σ H Q → t σ H Q) (h : PO X e t) : PO X e u := ⟨fun pins s σ H Q I q => h.run pins s σ H Q I (i σ H Q q)⟩
end
section
variable {K : PySem.W.Frag} {p : Px} {W : WX} {σ : L2.St} {H : Hp}
/-! ## leaves -/
theorem i_var {i : Nat} : ∀ σ H Q, cE K p W (eVar i) σ H Q → tVar i σ H Q := fun σ H Q ⟨w, e, s, R, E, h⟩ => by
  unfold eVar at h
  split at h
  · rename_i d hd
    obtain ⟨v, h1, h2⟩ := E.sl _ _ hd
    exact ⟨v, h1, Fin.now h R h2⟩
  · exact h.elim
theorem i_c {v : V} {d : Dx} (k : ∀ r G, Rv K r G v d) : ∀ σ H Q, cE K p W (eC d) σ H Q → tC v σ H Q := fun σ H Q ⟨w, e, s, R, E, h⟩ => Fin.now h R (k _ _)
theorem i_int {i : Int} : ∀ σ H Q, cE K p W (eC (.int i)) σ H Q → tC (.int i) σ H Q := i_c fun _ _ => .int i
theorem i_bl {b : Bool} : ∀ σ H Q, cE K p W (eC (.bl b)) σ H Q → tC (.bl b) σ H Q := i_c fun _ _ => .bl b
theorem i_non : ∀ σ H Q, cE K p W (eC .non) σ H Q → tC .non σ H Q := i_c fun _ _ => .non
theorem i_str {z : String} : ∀ σ H Q, cE K p W (eC (.str (tx z))) σ H Q → tC (.str (Str.ofString z)) σ H Q := i_c fun _ _ => by rw [tS_tx]; exact .str (okT_tx z)
theorem i_ty {z : String} : ∀ σ H Q, cE K p W (eC (.ty z)) σ H Q → tC (.ty z) σ H Q := i_c fun _ _ => .ty
theorem i_cls {C : String} : ∀ σ H Q, cE K p W (eC (.cls C)) σ H Q → tC (.ref (ga K C)) σ H Q := i_c fun _ _ => .cls
theorem i_dnew : ∀ σ H Q, cE K p W (eC .dct) σ H Q → tDNewK σ H Q := fun σ H Q ⟨w, e, s, R, E, h⟩ => by
  intro a n
  obtain ⟨r1, e1, g1⟩ := R.new n (.dK [])
  exact h w _ _ e1 r1 (.dct g1)
/-! ## operators -/
theorem i_op {r : R2} {f : O2} {ma mb : ME} (sr : SimO2 K r f) : ∀ σ H Q, cE K p W (eOp f ma mb) σ H Q → tOp r (cE K p W ma) (cE K p W mb) σ H Q := fun σ H Q ⟨w, e, s, R, E, h⟩ =>
  ⟨w, e, s, R, E, Fin.bind h fun d s1 w1 H1 v x1 R1 r1 h1 => ⟨w1, e, s1, R1, E.ext x1, Fin.bind h1 fun d2 s2 w2 H2 v2 x2 R2 r2 h2 => sr _ _ _ _ _ _ _ _ _ R2 (r1.ext x2) r2 h2⟩⟩
theorem i_un {r : V → Hp → VK → Prop} {f : O1} {ma : ME} (sr : SimO1 K r f) : ∀ σ H Q, cE K p W (eUn f ma) σ H Q → tUn r (cE K p W ma) σ H Q := fun σ H Q ⟨w, e, s, R, E, h⟩ =>
  ⟨w, e, s, R, E, Fin.bind h fun d s1 w1 H1 v x1 R1 r1 h1 => sr _ _ _ _ _ _ _ R1 r1 h1⟩
theorem sim_neg : SimO1 K (rU fun i => .int (-i)) negD := by
  intro w H s x d Q E R hx h
  unfold negD at h
  split at h
  · cases hx; exact ⟨_, rfl, Fin.now h R (.int _)⟩
  · exact h.elim
theorem i_and {ma mb : ME} : ∀ σ H Q, cE K p W (eAnd ma mb) σ H Q → tAndV (cE K p W ma) (cE K p W mb) σ H Q := fun σ H Q ⟨w, e, s, R, E, h⟩ =>
  ⟨w, e, s, R, E, Fin.bind h fun d s1 w1 H1 v x1 R1 r1 h1 => by
    split at h1
    · cases r1; exact ⟨true, rfl, w1, e, s1, R1, E.ext x1, h1⟩
    · cases r1; exact ⟨false, rfl, Fin.now h1 R1 (.bl false)⟩
    · exact h1.elim⟩
theorem i_or {ma mb : ME} : ∀ σ H Q, cE K p W (eOr ma mb) σ H Q → tOrV (cE K p W ma) (cE K p W mb) σ H Q := fun σ H Q ⟨w, e, s, R, E, h⟩ =>
  ⟨w, e, s, R, E, Fin.bind h fun d s1 w1 H1 v x1 R1 r1 h1 => by
    split at h1
    · cases r1; exact ⟨true, rfl, Fin.now h1 R1 (.bl true)⟩
    · cases r1; exact ⟨false, rfl, w1, e, s1, R1, E.ext x1, h1⟩
    · exact h1.elim⟩
theorem i_not {ma : ME} : ∀ σ H Q, cE K p W (eNot ma) σ H Q → tNotV (cE K p W ma) σ H Q := fun σ H Q ⟨w, e, s, R, E, h⟩ =>
  ⟨w, e, s, R, E, Fin.bind h fun d s1 w1 H1 v x1 R1 r1 h1 => by
    split at h1
    · cases r1; exact ⟨_, rfl, Fin.now h1 R1 (.bl _)⟩
    · exact h1.elim⟩
theorem i_if {mt : MT} {ma mb : ME} : ∀ σ H Q, cE K p W (eIf mt ma mb) σ H Q → tIf (cT K p W mt) (cE K p W ma) (cE K p W mb) σ H Q := fun σ H Q ⟨w, e, s, R, E, h⟩ =>
  ⟨w, e, s, R, E, Fin.bind h fun d s1 w1 H1 v x1 R1 r1 h1 => by
    cases r1
    by_cases hc : d = true
    · rw [if_pos hc] at h1 ⊢; exact ⟨w1, e, s1, R1, E.ext x1, h1⟩
    · rw [if_neg hc] at h1 ⊢; exact ⟨w1, e, s1, R1, E.ext x1, h1⟩⟩
theorem i_chain {r r' : R2} {f g : O2} {ma mb mc : ME} (sr : SimO2 K r f) (sg : SimO2 K r' g) : ∀ σ H Q, cE K p W (eChain f g ma mb mc) σ H Q → tChain r r' (cE K p W ma) (cE K p W mb) (cE K p W mc) σ H Q := fun σ H Q ⟨w, e, s, R, E, h⟩ =>
  ⟨w, e, s, R, E, Fin.bind h fun d s1 w1 H1 v x1 R1 r1 h1 => ⟨w1, e, s1, R1, E.ext x1, Fin.bind h1 fun d2 s2 w2 H2 v2 x2 R2 r2 h2 =>
    sr w2 H2 s2 _ _ _ _ _ (WE W σ) R2 (r1.ext x2) r2 (Fin.bind h2 fun d3 s3 w3 H3 v3 x3 R3 r3 h3 => by
      split at h3
      · cases r3
        refine ⟨true, rfl, ?_⟩
        rw [if_pos rfl]
        exact ⟨w3, e, s3, R3, (E.ext x1).ext (x2.trans x3), Fin.bind h3 fun d4 s4 w4 H4 v4 x4 R4 r4 h4 => sg _ _ _ _ _ _ _ _ _ R4 ((r2.ext x3).ext x4) r4 h4⟩
      · cases r3
        refine ⟨false, rfl, ?_⟩
        exact Fin.now h3 R3 (.bl false)
      · exact h3.elim)⟩⟩
/-! ## tests -/
theorem i_uV {ma : ME} : ∀ σ H Q, cT K p W (uV ma) σ H Q → tTest (cE K p W ma) σ H Q := fun σ H Q ⟨w, e, s, R, E, h⟩ =>
  ⟨w, e, s, R, E, Fin.bind h fun d s1 w1 H1 v x1 R1 r1 h1 => by
    split at h1
    · cases r1; exact ⟨_, rfl, Fin.now h1 R1 rfl⟩
    · exact h1.elim⟩
theorem i_uB {ma : ME} : ∀ σ H Q, cT K p W (uV ma) σ H Q → tB (cE K p W ma) σ H Q := i_uV
theorem i_uAnd {ma mb : MT} : ∀ σ H Q, cT K p W (uAnd ma mb) σ H Q → tAnd (cT K p W ma) (cT K p W mb) σ H Q := fun σ H Q ⟨w, e, s, R, E, h⟩ =>
  ⟨w, e, s, R, E, Fin.bind h fun d s1 w1 H1 v x1 R1 r1 h1 => by
    cases r1
    by_cases hc : d = true
    · rw [if_pos hc] at h1 ⊢; exact ⟨w1, e, s1, R1, E.ext x1, h1⟩
    · rw [if_neg hc] at h1 ⊢; exact Fin.now h1 R1 rfl⟩
theorem i_uOr {ma mb : MT} : ∀ σ H Q, cT K p W (uOr ma mb) σ H Q → tOr (cT K p W ma) (cT K p W mb) σ H Q := fun σ H Q ⟨w, e, s, R, E, h⟩ =>
  ⟨w, e, s, R, E, Fin.bind h fun d s1 w1 H1 v x1 R1 r1 h1 => by
    cases r1
    by_cases hc : d = true
    · rw [if_pos hc] at h1 ⊢; exact Fin.now h1 R1 rfl
    · rw [if_neg hc] at h1 ⊢; exact ⟨w1, e, s1, R1, E.ext x1, h1⟩⟩
theorem i_uNot {ma : MT} : ∀ σ H Q, cT K p W (uNot ma) σ H Q → tNot (cT K p W ma) σ H Q := fun σ H Q ⟨w, e, s, R, E, h⟩ =>
  ⟨w, e, s, R, E, Fin.bind h fun d s1 w1 H1 v x1 R1 r1 h1 => by cases r1; exact Fin.now h1 R1 rfl⟩
theorem i_uYes : ∀ σ H Q, cT K p W uYes σ H Q → tYes σ H Q := fun σ H Q ⟨w, e, s, R, E, h⟩ => Fin.now h R rfl
theorem sq_empty {r : List Addr} {G : Hp} {vs : List V} {ds : List Dx} (l : RvL K r G vs ds) : (!ds.isEmpty) = !vs.isEmpty := by cases l <;> rfl
theorem sim_tru {w : Wd} {s : Sto} (R : Rel K w H s) {v : V} {d : Dx} (r : Rv K w.r (w.G H) v d) {b : Bool} (h : truD s d = some b) : TruV K v H b := by
  unfold truD at h
  split at h
  · cases r; cases h; rfl
  · cases r; cases h; rfl
  · cases r; cases h; rfl
  · cases r with | str r =>
    split at h
    · rename_i hl
      cases h
      refine ⟨by rw [tS_len]; exact most_le hl, ?_⟩
      rw [tS_len]
      rename_i z
      cases z with
      | nil => rfl
      | cons c z =>
        show true = (((z.length + 1 : Nat) : Int) != 0)
        rw [eq_comm, bne_iff_ne]
        omega
    · cases h
  · obtain ⟨xs, h1, h2⟩ := Option.map_eq_some_iff.mp h
    obtain ⟨a, vs, rfl, h3, l⟩ := r.asQ R h1
    subst h2
    rcases h3 with h3 | h3
    · exact .inl ⟨vs, h3, sq_empty l⟩
    · exact .inr (.inl ⟨vs, h3, sq_empty l⟩)
theorem i_tru {ma : ME} : ∀ σ H Q, cT K p W (uTru ma) σ H Q → tTru K (cE K p W ma) σ H Q := fun σ H Q ⟨w, e, s, R, E, h⟩ =>
  ⟨w, e, s, R, E, Fin.bind h fun d s1 w1 H1 v x1 R1 r1 h1 => by
    split at h1
    · rename_i hb
      exact ⟨_, sim_tru R1 r1 hb, Fin.now h1 R1 rfl⟩
    · exact h1.elim⟩
/-! ## arguments, lists -/
theorem i_nil : ∀ σ H Q, cA K p W aNil σ H Q → tNil σ H Q := fun σ H Q ⟨w, e, s, R, E, h⟩ => Fin.now h R .nil
theorem i_cons {ma : ME} {ms : MA} : ∀ σ H Q, cA K p W (aCons ma ms) σ H Q → tCons (cE K p W ma) (cA K p W ms) σ H Q := fun σ H Q ⟨w, e, s, R, E, h⟩ =>
  ⟨w, e, s, R, E, Fin.bind h fun d s1 w1 H1 v x1 R1 r1 h1 => ⟨w1, e, s1, R1, E.ext x1, Fin.bind h1 fun d2 s2 w2 H2 v2 x2 R2 r2 h2 => Fin.now h2 R2 (.cons (r1.ext x2) r2)⟩⟩
theorem i_lst {c : Bool} {ms : MA} : ∀ σ H Q, cE K p W (eLst c ms) σ H Q → tLst (cA K p W ms) σ H Q := fun σ H Q ⟨w, e, s, R, E, h⟩ =>
  ⟨w, e, s, R, E, Fin.bind h fun d s1 w1 H1 v x1 R1 r1 h1 => by
    split at h1
    · rename_i hl
      exact ⟨by rw [r1.len]; exact most_le hl, fun a n => Fin.newL h1 R1 r1 n⟩
    · exact h1.elim⟩
theorem i_tup {ms : MA} : ∀ σ H Q, cE K p W (eTup ms) σ H Q → tTup (cA K p W ms) σ H Q := fun σ H Q ⟨w, e, s, R, E, h⟩ =>
  ⟨w, e, s, R, E, Fin.bind h fun d s1 w1 H1 v x1 R1 r1 h1 => by
    split at h1
    · rename_i hl
      exact ⟨by rw [r1.len]; exact most_le hl, fun a n => Fin.treeT h1 R1 r1 n⟩
    · exact h1.elim⟩
/-! ## slices -/
theorem i_oNone : ∀ σ H Q, cO K p W oNone σ H Q → tNoPart σ H Q := fun σ H Q ⟨w, e, s, R, E, h⟩ => Fin.now h R rfl
theorem i_oSome {ma : ME} : ∀ σ H Q, cO K p W (oSome ma) σ H Q → tPart (cE K p W ma) σ H Q := fun σ H Q ⟨w, e, s, R, E, h⟩ =>
  ⟨w, e, s, R, E, Fin.bind h fun d s1 w1 H1 v x1 R1 r1 h1 => by
    split at h1
    · cases r1; exact ⟨_, rfl, Fin.now h1 R1 rfl⟩
    · exact h1.elim⟩
/-! ## calls -/
theorem i_cb {r : List V → Hp → VK → Prop} {f : MF} {ms : MA} (sr : SimF K r f) : ∀ σ H Q, cE K p W (eCall f ms) σ H Q → tCB r (cA K p W ms) σ H Q := fun σ H Q ⟨w, e, s, R, E, h⟩ =>
  ⟨w, e, s, R, E, Fin.bind h fun d s1 w1 H1 v x1 R1 r1 h1 => sr _ _ _ _ _ _ _ R1 r1 h1⟩
/-- what a def asks: its arguments stand for data, what it computes is wanted -/
def spM (K : PySem.W.Frag) (f : MF) : Sp := fun vs H Q E => ∃ w ds s, Rel K w H s ∧ RvL K w.r (w.G H) vs ds ∧ Fin K w H (Rv K) Q E (f ds s)
theorem i_call {f : MF} {ms : MA} : ∀ σ H Q, cE K p W (eCall f ms) σ H Q → tCallS (spM K f) (WE W) (cA K p W ms) σ H Q := fun σ H Q ⟨w, e, s, R, E, h⟩ =>
  ⟨w, e, s, R, E, Fin.bind h fun d s1 w1 H1 v x1 R1 r1 h1 => ⟨w1, d, s1, R1, r1, h1⟩⟩
def RvC (K : PySem.W.Frag) (us : List V) (ds : List Dx) : Prop := ∀ r G, RvL K r G us ds
theorem i_callD {f : MF} {ms : MA} {us : List V} {dv : List Dx} (k : RvC K us dv) : ∀ σ H Q, cE K p W (eCallD f dv ms) σ H Q → tCallSD (spM K f) us (WE W) (cA K p W ms) σ H Q := fun σ H Q ⟨w, e, s, R, E, h⟩ =>
  ⟨w, e, s, R, E, Fin.bind h fun d s1 w1 H1 v x1 R1 r1 h1 => ⟨w1, _, s1, R1, r1.app (k _ _), h1⟩⟩
end
section
variable {X : Cx} {p : Px} {W : WX}
theorem qe_op {op : Operator} {f : O2} {a b : Expr} {pos : Pos} {ma mb : ME} (ho : OpM X (binaryOp op) f) (ha : PE X a (cE X.K p W ma)) (hb : PE X b (cE X.K p W mb)) : PE X (.BinOp a op b pos) (cE X.K p W (eOp f ma mb)) := let ⟨_, h, s⟩ := ho; imE (i_op s) (pe_op h ha hb)
theorem qe_cmp {op : CmpOp} {f : O2} {a b : Expr} {pos : Pos} {ma mb : ME} (ho : OpM X (compareOp op) f) (ha : PE X a (cE X.K p W ma)) (hb : PE X b (cE X.K p W mb)) (hm : behindInMarks op b = false) : PE X (.Compare a [op] [b] pos) (cE X.K p W (eOp f ma mb)) := let ⟨_, h, s⟩ := ho; imE (i_op s) (pe_cmpR h ha hb hm)
theorem qt_cmp {op : CmpOp} {f : O2} {a b : Expr} {pos : Pos} {ma mb : ME} (ho : OpM X (compareOp op) f) (ha : PE X a (cE X.K p W ma)) (hb : PE X b (cE X.K p W mb)) (hm : behindInMarks op b = false) : PT X (.Compare a [op] [b] pos) (cT X.K p W (uV (eOp f ma mb))) := let ⟨_, h, s⟩ := ho
  imT (fun σ H Q q => by
    obtain ⟨w, e, s1, R, E, q⟩ := q
    exact i_op s σ H _ ⟨w, e, s1, R, E, Fin.bind q fun d s1 w1 H1 v x1 R1 r1 h1 => by
      split at h1
      · cases r1; exact ⟨_, rfl, Fin.now h1 R1 rfl⟩
      · exact h1.elim⟩) (pt_cmpR h ha hb hm)
theorem qe_chain {op op' : CmpOp} {f g : O2} {a b c : Expr} {pos : Pos} {ma mb mc : ME} (ho : OpM X (compareOp op) f) (ho' : OpM X (compareOp op') g) (ha : PE X a (cE X.K p W ma)) (hb : PE X b (cE X.K p W mb)) (hc : PE X c (cE X.K p W mc))
    (hm : lastMarks [op, op'] [b, c] = false := by with_unfolding_all rfl) : PE X (.Compare a [op, op'] [b, c] pos) (cE X.K p W (eChain f g ma mb mc)) := let ⟨_, h, s⟩ := ho; let ⟨_, h', s'⟩ := ho'; imE (i_chain s s') (pe_chain h h' ha hb hc hm)
theorem qt_chain {op op' : CmpOp} {f g : O2} {a b c : Expr} {pos : Pos} {ma mb mc : ME} (ho : OpM X (compareOp op) f) (ho' : OpM X (compareOp op') g) (ha : PE X a (cE X.K p W ma)) (hb : PE X b (cE X.K p W mb)) (hc : PE X c (cE X.K p W mc))
    (hm : lastMarks [op, op'] [b, c] = false := by with_unfolding_all rfl) : PT X (.Compare a [op, op'] [b, c] pos) (cT X.K p W (uV (eChain f g ma mb mc))) := let ⟨_, h, s⟩ := ho; let ⟨_, h', s'⟩ := ho'
  imT (fun σ H Q q => by
    obtain ⟨w, e, s1, R, E, q⟩ := q
    exact i_chain s s' σ H _ ⟨w, e, s1, R, E, Fin.bind q fun d s1 w1 H1 v x1 R1 r1 h1 => by
      split at h1
      · cases r1; exact ⟨_, rfl, Fin.now h1 R1 rfl⟩
      · exact h1.elim⟩) (pt_chain h h' ha hb hc hm)
theorem qe_ix {a b : Expr} {pos : Pos} {ma mb : ME} (ha : PE X a (cE X.K p W ma)) (hb : PE X b (cE X.K p W mb)) (hs : PlainIx b) : PE X (.Subscript a b pos) (cE X.K p W (eOp ixD ma mb)) := let ⟨_, h, s⟩ := xm_ix (X := X); imE (i_op s) (pe_ix h ha hb hs)
theorem qe_sl {a : Expr} {lo hi : Option Expr} {pos p2 : Pos} {ma : ME} {ml mh : MO} (ha : PE X a (cE X.K p W ma)) (hl : PO X lo (cO X.K p W ml)) (hh : PO X hi (cO X.K p W mh)) : PE X (.Subscript a (.Slice lo hi none p2) pos) (cE X.K p W (eSl ma ml mh)) := let ⟨_, h, sr⟩ := zm_sl (X := X)
  imE (fun σ H Q ⟨w, e, s, R, E, q⟩ => ⟨w, e, s, R, E, Fin.bind q fun d s1 w1 H1 v x1 R1 r1 h1 => ⟨w1, e, s1, R1, E.ext x1, Fin.bind h1 fun d2 s2 w2 H2 v2 x2 R2 r2 h2 => ⟨w2, e, s2, R2, (E.ext x1).ext x2, Fin.bind h2 fun d3 s3 w3 H3 v3 x3 R3 r3 h3 => by
    cases r2; cases r3; exact sr _ _ _ _ _ _ _ _ _ R3 ((r1.ext x2).ext x3) h3⟩⟩⟩) (pe_slice h ha hl hh)
theorem qe_slC {a : Expr} {lo hi : Option Expr} {pos p2 : Pos} {ma : ME} {ml mh : MO} (ha : PE X a (cE X.K p W ma)) (hl : PO X lo (cO X.K p W ml)) (hh : PO X hi (cO X.K p W mh)) : PE X (.Subscript a (.Slice lo hi none p2) pos) (cE X.K p W (eSlC ma ml mh)) := let ⟨_, h, sr⟩ := zm_slC (X := X)
  imE (fun σ H Q ⟨w, e, s, R, E, q⟩ => ⟨w, e, s, R, E, Fin.bind q fun d s1 w1 H1 v x1 R1 r1 h1 => ⟨w1, e, s1, R1, E.ext x1, Fin.bind h1 fun d2 s2 w2 H2 v2 x2 R2 r2 h2 => ⟨w2, e, s2, R2, (E.ext x1).ext x2, Fin.bind h2 fun d3 s3 w3 H3 v3 x3 R3 r3 h3 => by
    cases r2; cases r3; exact sr _ _ _ _ _ _ _ _ _ R3 ((r1.ext x2).ext x3) h3⟩⟩⟩) (pe_slice h ha hl hh)
theorem qe_cb {f : MF} {v : Value} {e : Expr} {ms : MA} (hc : CallM X v f) (h : ∀ r, CallR X v r → PE X e (tCB r (cA X.K p W ms))) : PE X e (cE X.K p W (eCall f ms)) := let ⟨_, k, s⟩ := hc; imE (i_cb s) (h _ k)
end
end Ps

/-! # soundness: own classes, isinstance, fields, objects -/
namespace Ps
open PySem PySem.Spec PyProof.Rows L2 Vs He Pm
def clsB (K : PySem.W.Frag) (C : Addr) : Bool := PySem.W.plainGet K C Str.empty && (PySem.W.hasDictIn K C && (PySem.W.plainOver K C && decide (PySem.W.findIn K (.ref C) "__setattr__" = some (some (.builtin "object.__setattr__")))))
theorem clsB_ok {K : PySem.W.Frag} {C : Addr} (h : clsB K C = true) : Cls K C := by
  obtain ⟨h1, h⟩ := b2 h
  obtain ⟨h2, h⟩ := b2 h
  obtain ⟨h3, h4⟩ := b2 h
  exact ⟨h1, h2, h3, of_decide_eq_true h4⟩
def hcB (K : PySem.W.Frag) : Bool := subT.all fun e => clsB K (ga K e.1) && (insB K (ga K e.1) && ((e.2.2.all fun f => decide (PySem.W.findIn K (.ref (ga K e.1)) f = some none)) &&
  ((bTys.all fun b => decide (PySem.W.kitOne K (.ref (ga K e.1)) (.type b) = some false) && decide (PySem.W.kitOne K (.type b) (.ref (ga K e.1)) = some false)) &&
  (subT.all fun x => decide (PySem.W.kitOne K (.ref (ga K e.1)) (.ref (ga K x.1)) = some (e.2.1.contains x.1))))))
structure HcE (K : PySem.W.Frag) (C : String) (ss fs : List String) : Prop where
  cls : Cls K (ga K C)
  ins : InsT K (ga K C)
  na : ∀ f ∈ fs, NoAttr K (ga K C) f
  nb : ∀ b ∈ bTys, PySem.W.kitOne K (.ref (ga K C)) (.type b) = some false ∧ PySem.W.kitOne K (.type b) (.ref (ga K C)) = some false
  sub : ∀ x ∈ subT, PySem.W.kitOne K (.ref (ga K C)) (.ref (ga K x.1)) = some (ss.contains x.1)
def Hc (K : PySem.W.Frag) : Prop := hcB K = true
theorem lookup_mem {α β : Type} [BEq α] [LawfulBEq α] {l : List (α × β)} {a : α} {b : β} (h : l.lookup a = some b) : (a, b) ∈ l := by
  induction l with
  | nil => cases h
  | cons x l ih =>
    obtain ⟨c, d⟩ := x
    by_cases e : a = c
    · subst e
      rw [List.lookup_cons] at h
      simp only [beq_self_eq_true] at h
      cases h
      exact List.mem_cons_self
    · rw [List.lookup_cons] at h
      have : (a == c) = false := by simpa using e
      rw [this] at h
      exact List.mem_cons_of_mem _ (ih h)
theorem Hc.e {K : PySem.W.Frag} (h : Hc K) {C : String} {z : List String × List String} (m : subT.lookup C = some z) : HcE K C z.1 z.2 := by
  have h := List.all_eq_true.mp h _ (lookup_mem m)
  obtain ⟨h1, h⟩ := b2 h
  obtain ⟨h2, h⟩ := b2 h
  obtain ⟨h3, h⟩ := b2 h
  obtain ⟨h4, h5⟩ := b2 h
  have c := clsB_ok h1
  refine ⟨c, insB_ok c h2, fun f hf => (show PySem.W.findIn K (.ref (ga K C)) f = some none from of_decide_eq_true (List.all_eq_true.mp h3 f hf)), fun b hb => ?_, fun x hx => of_decide_eq_true (List.all_eq_true.mp h5 x hx)⟩
  obtain ⟨a1, a2⟩ := b2 (List.all_eq_true.mp h4 b hb)
  exact ⟨of_decide_eq_true a1, of_decide_eq_true a2⟩
theorem Hc.cls {K : PySem.W.Frag} (h : Hc K) {C : String} (m : inT C = true) : Cls K (ga K C) := let ⟨_, e⟩ := Option.isSome_iff_exists.mp m; (h.e e).cls
theorem Hc.ins {K : PySem.W.Frag} (h : Hc K) {C : String} (m : inT C = true) : InsT K (ga K C) := let ⟨_, e⟩ := Option.isSome_iff_exists.mp m; (h.e e).ins
theorem Hc.na {K : PySem.W.Frag} (h : Hc K) {C f : String} (m : hasF C f = true) : NoAttr K (ga K C) f := by
  unfold hasF at m
  cases e : subT.lookup C with
  | none => rw [e] at m; cases m
  | some z =>
    rw [e] at m
    exact (h.e e).na f (List.contains_iff_mem.mp m)
/-! ## isinstance -/
def tv (K : PySem.W.Frag) (s : Sto) : Dx → Value
  | .int _ => .type "int"
  | .bl _ => .type "bool"
  | .non => .type "NoneType"
  | .str _ => .type "str"
  | .tup _ => .type "tuple"
  | .lst _ => .type "list"
  | .dct => .type "dict"
  | .obj C _ => .ref (ga K C)
  | .cell n => match s[n]? with
    | some (.lst _) => .type "list"
    | some (.obj C _) => .ref (ga K C)
    | _ => .none
  | _ => .none
section
variable {K : PySem.W.Frag} {w : Wd} {H : Hp} {s : Sto}
theorem tyT {a : Addr} {vs : List V} (h : SqT K H a vs) : TyX K H (.ref a) (.type "tuple") := by
  rcases h with (h | ⟨o, h⟩) | h
  · exact .base (.tup h)
  · exact .fTuple h
  · obtain ⟨o, its, n, h1, h2, _⟩ := h
    exact .kTuple h1 h2
theorem Rv.tyx (hc : Hc K) (R : Rel K w H s) {v : V} {d : Dx} (h : Rv K w.r (w.G H) v d) (k : tv K s d ≠ .none) : TyX K H v (tv K s d) := by
  cases h with
  | int i => exact .base (.int i)
  | bl b => exact .base (.bl b)
  | non => exact .base .non
  | str z => exact .base (.str _)
  | tup h _ => exact tyT (seqT_same hid_same h)
  | lst h _ => exact .base (.lst (hid_some h).2)
  | dct h => exact .base (.dK (hid_some h).2)
  | obj h m _ _ => exact (hc.ins m).ty (hid_some h).2
  | fro => exact absurd rfl k
  | cls => exact absurd rfl k
  | ty => exact absurd rfl k
  | unk => exact absurd rfl k
  | cell h =>
    rename_i n a
    cases hs : s[n]? with
    | none => simp [tv, hs] at k
    | some c =>
      obtain ⟨o, h1, h2⟩ := R.at_ h hs
      cases h2 with
      | lst l => simp only [tv, hs]; exact .base (.lst h1)
      | obj m f l => simp only [tv, hs]; exact (hc.ins m).ty h1
      | tbl _ _ => simp [tv, hs] at k
      | fn => simp [tv, hs] at k
theorem kitBs : ∀ a ∈ bTys, ∀ b ∈ bTys, PySem.W.kitMeta b = true → kitB a b = some (decide (b = a) || (decide (a = "bool") && decide (b = "int"))) := by decide +kernel
theorem bTys_meta : ∀ b ∈ bTys, PySem.W.kitMeta b = true := by decide +kernel
theorem kit_b {a b : String} (m : a ∈ bTys) (n : b ∈ bTys) : PySem.W.kitOne K (.type a) (.type b) = some (decide (b = a) || (decide (a = "bool") && decide (b = "int"))) := kit_ty (kitBs a m b n (bTys_meta b n))
theorem kit_c (hc : Hc K) {a X : String} (m : a ∈ bTys) (n : inT X = true) : PySem.W.kitOne K (.type a) (.ref (ga K X)) = some false := by
  obtain ⟨z, hz⟩ := Option.isSome_iff_exists.mp n
  exact ((hc.e hz).nb a m).2
theorem kit_o (hc : Hc K) {C X : String} (m : inT C = true) (n : inT X = true) : PySem.W.kitOne K (.ref (ga K C)) (.ref (ga K X)) = some (isSub C X) := by
  obtain ⟨z, hz⟩ := Option.isSome_iff_exists.mp m
  obtain ⟨x, hx⟩ := Option.isSome_iff_exists.mp n
  unfold isSub
  rw [hz]
  exact (hc.e hz).sub (X, x) (lookup_mem hx)
theorem kit_ob (hc : Hc K) {C b : String} (m : inT C = true) (n : b ∈ bTys) : PySem.W.kitOne K (.ref (ga K C)) (.type b) = some false := by
  obtain ⟨z, hz⟩ := Option.isSome_iff_exists.mp m
  exact ((hc.e hz).nb b n).1
/-- what stands in d's place is of an own class or a built-in's -/
inductive Kd (K : PySem.W.Frag) (s : Sto) (d : Dx) : Prop
  | b (a : String) (m : a ∈ bTys) (e : tv K s d = .type a) (c : ∀ X, isCl s X d = some false) (t : ∀ b, isTy s b d = some (decide (b = a) || (decide (a = "bool") && decide (b = "int"))))
  | o (C : String) (m : inT C = true) (e : tv K s d = .ref (ga K C)) (c : ∀ X, isCl s X d = some (isSub C X)) (t : ∀ b, isTy s b d = some false)
  | n (c : ∀ X, isCl s X d = none) (t : ∀ b, isTy s b d = none)
theorem Rv.kd (R : Rel K w H s) {v : V} {d : Dx} (h : Rv K w.r (w.G H) v d) : Kd K s d := by
  cases h with
  | int i => exact .b "int" (by decide) rfl (fun _ => rfl) fun b => by simp [isTy]
  | bl b => exact .b "bool" (by decide) rfl (fun _ => rfl) fun b => by simp [isTy]
  | non => exact .b "NoneType" (by decide) rfl (fun _ => rfl) fun b => by simp [isTy]
  | str z => exact .b "str" (by decide) rfl (fun _ => rfl) fun b => by simp [isTy]
  | tup h _ => exact .b "tuple" (by decide) rfl (fun _ => rfl) fun b => by simp [isTy]
  | lst h _ => exact .b "list" (by decide) rfl (fun _ => rfl) fun b => by simp [isTy]
  | dct h => exact .b "dict" (by decide) rfl (fun _ => rfl) fun b => by simp [isTy]
  | obj h m _ _ => exact .o _ m rfl (fun _ => rfl) fun _ => rfl
  | fro => exact .n (fun _ => rfl) fun _ => rfl
  | cls => exact .n (fun _ => rfl) fun _ => rfl
  | ty => exact .n (fun _ => rfl) fun _ => rfl
  | unk => exact .n (fun _ => rfl) fun _ => rfl
  | cell h =>
    rename_i n a
    cases hs : s[n]? with
    | none => exact .n (fun _ => by simp [isCl, hs]) fun _ => by simp [isTy, hs]
    | some c =>
      obtain ⟨o, h1, h2⟩ := R.at_ h hs
      cases h2 with
      | lst l => exact .b "list" (by decide) (by simp [tv, hs]) (fun _ => by simp [isCl, hs]) fun b => by simp [isTy, hs]
      | obj m f l => exact .o _ m (by simp [tv, hs]) (fun _ => by simp [isCl, hs]) fun b => by simp [isTy, hs]
      | tbl _ _ => exact .n (fun _ => by simp [isCl, hs]) fun _ => by simp [isTy, hs]
      | fn => exact .n (fun _ => by simp [isCl, hs]) fun _ => by simp [isTy, hs]
theorem isD1_ok (hc : Hc K) (R : Rel K w H s) {v c : V} {d e : Dx} (h : Rv K w.r (w.G H) v d) (k : Rv K w.r (w.G H) c e) {b : Bool} (q : isD1 s d e = some b) :
    ∃ u, ClsV c u ∧ tv K s d ≠ .none ∧ PySem.W.kitOne K (tv K s d) u = some b := by
  unfold isD1 at q
  split at q
  · cases k
    split at q
    · rename_i X hX
      refine ⟨_, .own _, ?_⟩
      cases h.kd R with
      | b a m e2 c2 t =>
        rw [c2] at q; cases q
        rw [e2]; exact ⟨nofun, kit_c hc m hX⟩
      | o C m e2 c2 t =>
        rw [c2] at q; cases q
        rw [e2]; exact ⟨nofun, kit_o hc m hX⟩
      | n c2 t => rw [c2] at q; cases q
    · cases q
  · cases k
    split at q
    · rename_i B hB
      have hB := List.contains_iff_mem.mp hB
      refine ⟨_, .ty _, ?_⟩
      cases h.kd R with
      | b a m e2 c2 t =>
        rw [t] at q; cases q
        rw [e2]; exact ⟨nofun, kit_b m hB⟩
      | o C m e2 c2 t =>
        rw [t] at q; cases q
        rw [e2]; exact ⟨nofun, kit_ob hc m hB⟩
      | n c2 t => rw [t] at q; cases q
    · cases q
  · cases q
theorem isDs_ok (hc : Hc K) (R : Rel K w H s) {v : V} {d : Dx} (h : Rv K w.r (w.G H) v d) : ∀ {cs : List V} {es : List Dx}, RvL K w.r (w.G H) cs es → ∀ {b : Bool}, isDs s d es = some b → ∃ us, Paired ClsV cs us ∧ PySem.W.kitAny K (tv K s d) us = some b
  | _, _, .nil, b, q => by cases q; exact ⟨[], .nil, rfl⟩
  | _, _, .cons k l, b, q => by
    simp only [isDs] at q
    split at q
    · rename_i a2 b2 q1 q2
      cases q
      obtain ⟨u, h1, _, h2⟩ := isD1_ok hc R h k q1
      obtain ⟨us, h3, h4⟩ := isDs_ok hc R h l q2
      refine ⟨u :: us, .cons h1 h3, ?_⟩
      simp only [PySem.W.kitAny]
      rw [h2]
      cases a2 with
      | true => rfl
      | false => exact h4
    · cases q
end
section
variable {X : Cx}
theorem isiD_is (ds : List Dx) (s : Sto) : isiD ds s = match ds with
  | [d, c] => (match isD1 s d c with
    | some b => .ok (.bl b) s
    | none => .stuck)
  | _ => .stuck := by
  match ds with
  | [] => rfl
  | [_] => rfl
  | [d, c] => rfl
  | _ :: _ :: _ :: _ => rfl
theorem cm_isi (hc : Hc X.K) : CallM X (.builtin "isinstance") isiD := by
  refine ⟨_, call_isi, ?_⟩
  intro w H s xs ds Q E R hx h
  rw [isiD_is] at h
  split at h
  · cases hx with | cons hx l => cases l with | cons hy l =>
    cases l
    split at h
    · rename_i b hb
      obtain ⟨u, h1, h2, h3⟩ := isD1_ok hc R hx hy hb
      exact ⟨_, _, _, _, b, rfl, h1, hx.tyx hc R h2, h3, Fin.now h R (.bl _)⟩
    · exact h.elim
  · exact h.elim
end
section
variable {K : PySem.W.Frag} {p : Px} {W : WX}
theorem i_isiT {ma : ME} {ms : MA} (hc : Hc K) : ∀ σ H Q, cE K p W (eIsT ma ms) σ H Q → tCB (rIsiT K) (tCons (cE K p W ma) (tCons (tTup (cA K p W ms)) tNil)) σ H Q := fun σ H Q ⟨w, e, s, R, E, h⟩ =>
  ⟨w, e, s, R, E, Fin.bind h fun d s1 w1 H1 v x1 R1 r1 h1 => ⟨w1, e, s1, R1, E.ext x1, Fin.bind h1 fun d2 s2 w2 H2 v2 x2 R2 r2 h2 => by
    split at h2
    · rename_i hl
      split at h2
      · rename_i b hb
        have hn : tv K s2 d ≠ .none := by
          cases r2 with
          | nil => cases hl.1
          | cons k l =>
            simp only [isDs] at hb
            split at hb
            · rename_i q1 q2
              obtain ⟨_, _, h3, _⟩ := isD1_ok hc R2 (r1.ext x2) k q1
              exact h3
            · cases hb
        refine ⟨by rw [r2.len]; exact most_le hl.2, fun tp n => ?_⟩
        obtain ⟨r3, e3, g3⟩ := R2.new n (.tup v2)
        obtain ⟨us, h3, h4⟩ := isDs_ok hc R2 (r1.ext x2) r2 hb
        exact ⟨v, tp, v2, _, us, b, rfl, upd_same, h3, ((r1.ext x2).ext e3).tyx hc r3 hn, h4, h2 w2 _ _ e3 r3 (.bl b)⟩
      · exact h2.elim
    · exact h2.elim⟩⟩
end
end Ps

/-! # soundness: fields, objects, methods, exceptions held -/
namespace Ps
open PySem PySem.Spec PyProof.Rows L2 Vs He Pm
/-! ## a hidden address -/
structure ExtH (D : Addr) (w : Wd) (H : Hp) (w' : Wd) (H' : Hp) : Prop where
  h : w'.h = D :: w.h
  r : ∃ t, w'.r = w.r ++ t
  s : Same (w.G H) (w'.G H')
  k : ∀ a ∈ w.h, H' a = H a
  n : D ∉ w.h
section
variable {K : PySem.W.Frag} {w w1 w2 : Wd} {H H1 H2 : Hp} {s : Sto} {D : Addr}
theorem ExtH.pre (e : ExtH D w H w1 H1) : Pre w.r w1.r := by
  obtain ⟨t, h⟩ := e.r
  rw [h]; exact Pre.app _ _
theorem ExtH.trans {z : List Addr} (e : ExtH D w H w1 H1) (f : Ext z w1 H1 w2 H2) (hz : ∀ a ∈ z, a = D) : ExtH D w H w2 H2 := by
  obtain ⟨t, ht⟩ := e.r
  obtain ⟨u, hu⟩ := f.r
  refine ⟨f.h.trans e.h, ⟨t ++ u, by rw [hu, ht, List.append_assoc]⟩, Same.trans e.s f.s, fun a ha => ?_, e.n⟩
  rw [f.k a (by rw [e.h]; exact List.mem_cons_of_mem _ ha) (fun hq => e.n (hz a hq ▸ ha)), e.k a ha]
theorem Rel.hide (R : Rel K w H s) (n : H D = none) (o : HO) : Rel K ⟨w.r, D :: w.h⟩ (upd H D o) s ∧ ExtH D w H ⟨w.r, D :: w.h⟩ (upd H D o) := by
  have nf := R.free n
  have ne : ∀ b ∈ w.h ++ w.r, b ≠ D := fun b hb q => nf (q ▸ hb)
  have g : Same (w.G H) (Wd.G ⟨w.r, D :: w.h⟩ (upd H D o)) := fun b u h => by
    obtain ⟨h1, h2⟩ := hid_some h
    have nb := ne_of_none h2 n
    show hid ((D :: w.h) ++ w.r) (upd H D o) b = some u
    rw [hid_out, upd_ne nb]
    · exact h2
    · rw [List.cons_append, List.mem_cons]
      exact fun z => z.elim nb h1
  refine ⟨⟨?_, fun a ha => ?_, R.len, fun m c hm => ?_, R.tb⟩, ⟨rfl, ⟨[], by simp⟩, g, fun a ha => upd_ne (ne a (List.mem_append_left _ ha)), fun z => nf (List.mem_append_left _ z)⟩⟩
  · show (D :: w.h ++ w.r).Nodup
    rw [List.cons_append, List.nodup_cons]
    exact ⟨nf, R.nd⟩
  · rcases List.mem_cons.mp ha with rfl | ha
    · rw [upd_same]; exact nofun
    · rw [upd_ne (ne a (List.mem_append_left _ ha))]; exact R.al a ha
  · obtain ⟨a, u, h1, h2, h3⟩ := R.ce m c hm
    refine ⟨a, u, h1, ?_, h3.mono g (Pre.refl _)⟩
    rw [upd_ne (ne a (List.mem_append_right _ (List.mem_of_getElem? h1)))]; exact h2
theorem Rel.unhide (R : Rel K w1 H1 s) (e : ExtH D w H w1 H1) : Rel K ⟨w1.r, w.h⟩ H1 s ∧ Ext [] w H ⟨w1.r, w.h⟩ H1 ∧ Same (w1.G H1) (Wd.G ⟨w1.r, w.h⟩ H1) ∧ Wd.G ⟨w1.r, w.h⟩ H1 D = H1 D := by
  have nd := R.nd
  rw [e.h, List.cons_append, List.nodup_cons] at nd
  have g : Same (w1.G H1) (Wd.G ⟨w1.r, w.h⟩ H1) := fun b u h => by
    obtain ⟨h1, h2⟩ := hid_some h
    show hid (w.h ++ w1.r) H1 b = some u
    rw [hid_out]
    · exact h2
    · rw [e.h, List.cons_append, List.mem_cons] at h1
      exact fun z => h1 (.inr z)
  refine ⟨⟨nd.2, fun a ha => R.al a (by rw [e.h]; exact List.mem_cons_of_mem _ ha), R.len, fun m c hm => ?_, R.tb⟩, ⟨rfl, e.r, Same.trans e.s g, fun a ha _ => e.k a ha⟩, g, hid_out nd.1⟩
  obtain ⟨a, u, h1, h2, h3⟩ := R.ce m c hm
  exact ⟨a, u, h1, h2, h3.mono g (Pre.refl _)⟩
/-- the hidden one becomes a cell -/
theorem Rel.unhideC (R : Rel K w1 H1 s) (e : ExtH D w H w1 H1) {o : HO} {c : Cl} (ho : H1 D = some o) (hc : Rc K w1.r (w1.G H1) o c) (hn : ∀ k, c ≠ .tbl k := by intro k h; cases h) : Rel K ⟨w1.r ++ [D], w.h⟩ H1 (s ++ [c]) ∧ Ext [] w H ⟨w1.r ++ [D], w.h⟩ H1 := by
  have nd := R.nd
  rw [e.h, List.cons_append, List.nodup_cons] at nd
  have g : Same (w1.G H1) (Wd.G ⟨w1.r ++ [D], w.h⟩ H1) := fun b u h => by
    obtain ⟨h1, h2⟩ := hid_some h
    show hid (w.h ++ (w1.r ++ [D])) H1 b = some u
    rw [hid_out]
    · exact h2
    · rw [e.h, List.cons_append, List.mem_cons] at h1
      simp only [List.mem_append, List.mem_singleton] at h1 ⊢
      exact fun z => z.elim (fun z => h1 (.inr (.inl z))) fun z => z.elim (fun z => h1 (.inr (.inr z))) fun z => h1 (.inl z)
  obtain ⟨t, ht⟩ := e.r
  refine ⟨⟨?_, fun a ha => R.al a (by rw [e.h]; exact List.mem_cons_of_mem _ ha), by simp [R.len], fun m d hm => ?_, fun m k hm => ?_⟩, ⟨rfl, ⟨t ++ [D], by show w1.r ++ [D] = _; rw [ht, List.append_assoc]⟩, Same.trans e.s g, fun a ha _ => e.k a ha⟩⟩
  · show (w.h ++ (w1.r ++ [D])).Nodup
    rw [← List.append_assoc]
    refine List.nodup_append.mpr ⟨nd.2, by simp, fun x hx y hy => ?_⟩
    rw [List.mem_singleton] at hy
    subst hy
    exact fun q => nd.1 (q ▸ hx)
  · by_cases hl : m < s.length
    · rw [List.getElem?_append_left hl] at hm
      obtain ⟨a, u, h1, h2, h3⟩ := R.ce m d hm
      exact ⟨a, u, Pre.app _ _ _ _ h1, h2, h3.mono g (Pre.app _ _)⟩
    · have hm2 : m = s.length := by
        have := (List.getElem?_eq_some_iff.mp hm).1
        simp at this
        omega
      subst hm2
      simp at hm
      subst hm
      refine ⟨D, o, ?_, ho, hc.mono g (Pre.app _ _)⟩
      show (w1.r ++ [D])[s.length]? = some D
      rw [← R.len]
      simp
  · by_cases hl : m < s.length
    · rw [List.getElem?_append_left hl] at hm
      exact Pre.app _ _ _ _ (R.tb m k hm)
    · rw [List.getElem?_append_right (by omega)] at hm
      cases hq : m - s.length with
      | zero =>
        rw [hq] at hm
        exact absurd (Option.some.inj hm) (hn k)
      | succ q => rw [hq] at hm; simp at hm
end
/-! ## fields -/
section
variable {K : PySem.W.Frag} {p : Px} {W : WX}
theorem i_fld (hc : Hc K) {f : String} {ma : ME} : ∀ σ H Q, cE K p W (eUn (fldD f) ma) σ H Q → tFld K (cE K p W ma) (Str.ofString f) σ H Q := fun σ H Q ⟨w, e, s, R, E, h⟩ =>
  ⟨w, e, s, R, E, Fin.bind h fun d s1 w1 H1 v x1 R1 r1 h1 => by
    unfold fldD at h1
    split at h1
    · rename_i C fs ho
      split at h1
      · rename_i u hu
        obtain ⟨a, dx, gs, rfl, h2, h3, h4, h5⟩ := r1.asO R1 ho
        obtain ⟨v, h6, h7⟩ := h5.look hu
        have hf : hasF C f = true := List.all_eq_true.mp h4 _ (lookup_mem hu)
        exact ⟨a, _, dx, gs, v, rfl, h2, hc.cls h3, hc.na hf, h6, Fin.now h1 R1 h7⟩
      · exact h1.elim
    · exact h1.elim⟩
/-! ## new objects -/
theorem i_make0 {C : String} (m : inT C = true) : ∀ σ H Q, cE K p W (eMake0 C) σ H Q → tMake0 (ga K C) σ H Q := fun σ H Q ⟨w, e, s, R, E, h⟩ x dx hx hd ne => by
  obtain ⟨R1, e1, _⟩ := R.new hd (.own x)
  obtain ⟨R2, e2, g2⟩ := R1.new (a := x) (by rw [upd_ne (Ne.symm ne)]; exact hx) (.ins (ga K C) dx [])
  exact h w _ _ (e1.trans e2) R2 (.obj g2 m rfl .nil)
/-- what is wanted of an __init__ -/
def FinI (K : PySem.W.Frag) (w : Wd) (H : Hp) (a dx : Addr) (C : String) (Q : VK) (X : XK) : R Fs → Prop
  | .ok fs s => ∀ w' H' gs, Ext [a] w H w' H' → Rel K w' H' s → H' a = some (.ins (ga K C) dx gs) → (fs.all fun q => hasF C q.1) = true → RvF K w'.r (w'.G H') gs fs → Q .non H'
  | .exc C' fs s => ∀ w' H' d, Ext [a] w H w' H' → Rel K w' H' s → inX C' = true → Rx K w'.r (w'.G H') d fs → X (.ref (ga K C')) d H'
  | .stuck => False
def spI (K : PySem.W.Frag) (L : List String) (f : MI) : Sp := fun vs H Q E => ∃ (w : Wd) (a dx : Addr) (C : String) (us : List V) (ds : List Dx) (s : Sto), vs = .ref a :: us ∧ Rel K w H s ∧ a ∈ w.h ∧ H a = some (.ins (ga K C) dx []) ∧ inT C = true ∧ (L.all fun f => hasF C f) = true ∧ RvL K w.r (w.G H) us ds ∧ FinI K w H a dx C Q E (f ds s)
theorem make_tree {f : MI} {L : List String} {C : String} (m : inT C = true) (hl : (L.all fun f => hasF C f) = true) {w : Wd} {H : Hp} {s : Sto} {vs : List V} {ds : List Dx} {Q : VK} {X : XK} (R : Rel K w H s) (l : RvL K w.r (w.G H) vs ds)
    (h : Fin K w H (Rv K) Q X ((f ds s).bind fun fs s2 => .ok (.obj C fs) s2)) (a b : Addr) (ha : H a = none) (hb : H b = none ∧ b ≠ a) :
    spI K L f (.ref a :: vs) (upd (upd H b (.own a)) a (.ins (ga K C) b [])) (fun v H2 => v = .non ∧ Q (.ref a) H2) X := by
  obtain ⟨R1, e1, _⟩ := R.new hb.1 (.own a)
  have na : upd H b (.own a) a = none := by rw [upd_ne (Ne.symm hb.2)]; exact ha
  obtain ⟨R2, e2⟩ := R1.hide na (.ins (ga K C) b [])
  refine ⟨⟨w.r, a :: w.h⟩, a, b, C, vs, ds, s, rfl, R2, List.mem_cons_self, upd_same, m, hl, (l.ext e1).mono e2.s e2.pre, ?_⟩
  have hz : ∀ c ∈ [a], c = a := fun c hc => List.mem_singleton.mp hc
  cases hr : f ds s with
  | ok fs s2 =>
    rw [hr] at h
    intro w' H' gs x3 R3 h3 h4 l3
    obtain ⟨R4, e4, g4, d4⟩ := R3.unhide (e2.trans x3 hz)
    exact ⟨rfl, h _ _ _ (e1.trans e4) R4 (.obj (d4.trans h3) m h4 (l3.mono g4 (Pre.refl _)))⟩
  | exc C' fs s2 =>
    rw [hr] at h
    intro w' H' d x3 R3 h3 h4
    obtain ⟨R4, e4, g4, d4⟩ := R3.unhide (e2.trans x3 hz)
    exact h _ _ _ (e1.trans e4) R4 h3 (h4.mono g4 (Pre.refl _))
  | stuck => rw [hr] at h; exact h
theorem i_make {C : String} {L : List String} {f : MI} {ms : MA} (m : inT C = true) (hl : (L.all fun f => hasF C f) = true) : ∀ σ H Q, cE K p W (eMake C f ms) σ H Q → tMakeS (ga K C) (spI K L f) (WE W) (cA K p W ms) σ H Q := fun σ H Q ⟨w, e, s, R, E, h⟩ =>
  ⟨w, e, s, R, E, Fin.bind h fun d s1 w1 H1 v x1 R1 r1 h1 => fun a b ha hb => make_tree m hl R1 r1 h1 a b ha hb⟩
/-- with defaults behind the arguments -/
def tMakeSD (C : Addr) (sp : Sp) (us : List V) (E : L2.St → XK) (t : TA) : TE := fun σ H Q => t σ H fun vs H1 => ∀ a b, H1 a = none → (H1 b = none ∧ b ≠ a) →
  sp (.ref a :: (vs ++ us)) (upd (upd H1 b (.own a)) a (.ins C b [])) (fun v H2 => v = .non ∧ Q (.ref a) H2) (E σ)
theorem i_makeD {C : String} {L : List String} {f : MI} {ms : MA} {us : List V} {dv : List Dx} (k : RvC K us dv) (m : inT C = true) (hl : (L.all fun f => hasF C f) = true) : ∀ σ H Q, cE K p W (eMakeD C f dv ms) σ H Q → tMakeSD (ga K C) (spI K L f) us (WE W) (cA K p W ms) σ H Q := fun σ H Q ⟨w, e, s, R, E, h⟩ =>
  ⟨w, e, s, R, E, Fin.bind h fun d s1 w1 H1 v x1 R1 r1 h1 => fun a b ha hb => make_tree m hl R1 (r1.app (k _ _)) h1 a b ha hb⟩
/-- an object that changes -/
theorem i_makeC {C : String} {f : MF} {ms : MA} (m : inT C = true) : ∀ σ H Q, cE K p W (eMakeC C f ms) σ H Q → tMakeS (ga K C) (spM K f) (WE W) (cA K p W ms) σ H Q := fun σ H Q ⟨w, e, s, R, E, h⟩ =>
  ⟨w, e, s, R, E, Fin.bind h fun d s1 w1 H1 v x1 R1 r1 h1 => fun a b ha hb => by
    obtain ⟨R2, e2, _⟩ := R1.new hb.1 (.own a)
    have na : upd H1 b (.own a) a = none := by rw [upd_ne (Ne.symm hb.2)]; exact ha
    obtain ⟨R3, e3⟩ := R2.newC na (o := .ins (ga K C) b []) (c := .obj C []) (.obj m rfl .nil)
    have hw : (w1.r ++ [a])[s1.length]? = some a := by rw [← R1.len]; simp
    refine ⟨_, _, _, R3, .cons (.cell hw) ((r1.ext e2).ext e3), Fin.bind (Fin.ext h1 (e2.trans e3)) fun d4 s4 w4 H4 v4 x4 R4 r4 h4 => ?_⟩
    split at h4
    · cases r4
      exact ⟨rfl, Fin.now h4 R4 (.cell (x4.pre _ _ hw))⟩
    · exact h4.elim⟩
/-! ## methods -/
def tMethS (C : Addr) (m : Str) (sp : Sp) (E : L2.St → XK) (ta : TE) (t : TA) : TE := fun σ H Q => ta σ H fun x H1 => ∃ a dx fs, x = .ref a ∧ H1 a = some (.ins C dx fs) ∧ fs.lookup m = none ∧ t σ H1 fun vs H2 => sp (x :: vs) H2 Q (E σ)
def altM (K : PySem.W.Frag) (m : String) (E : L2.St → XK) (ta : TE) (t : TA) : List (String × MF) → TE
  | [] => fun _ _ _ => False
  | (C, f) :: r => tAlt (tMethS (ga K C) m (spM K f) E ta t) (altM K m E ta t r)
theorem altM_in {m : String} {E : L2.St → XK} {ta : TE} {t : TA} {σ : L2.St} {H : Hp} {Q : VK} {C : String} {f : MF} : ∀ {l : List (String × MF)}, l.lookup C = some f → tMethS (ga K C) m (spM K f) E ta t σ H Q → altM K m E ta t l σ H Q
  | [], h, _ => by cases h
  | (D, g) :: l, h, q => by
    rw [List.lookup_cons] at h
    by_cases e : C = D
    · subst e
      simp only [beq_self_eq_true] at h
      cases h
      exact .inl q
    · have : (C == D) = false := by simpa using e
      rw [this] at h
      exact .inr (altM_in h q)
theorem i_methG {l : List (String × MF)} {m : String} {ma : ME} {ms : MA} {t : TA} (it : ∀ σ H Q, cA K p W ms σ H Q → t σ H Q) (hm : (l.all fun q => !hasF q.1 m) = true) : ∀ σ H Q, cE K p W (eMeth l ma ms) σ H Q → altM K m (WE W) (cE K p W ma) t l σ H Q := fun σ H Q ⟨w, e, s, R, E, h⟩ => by
  unfold eMeth at h
  cases hr : ma e s with
  | stuck => rw [hr] at h; exact h.elim
  | exc C fs s1 => rw [hr] at h; exact h.elim
  | ok d s1 =>
    rw [hr] at h
    simp only [Pm.R.calm, Pm.R.bind] at h
    cases ho : Pm.asO s1 d with
    | none => rw [ho] at h; exact h.elim
    | some q =>
      obtain ⟨C, fs⟩ := q
      rw [ho] at h
      simp only at h
      cases hf : l.lookup C with
      | none => rw [hf] at h; exact h.elim
      | some f =>
        rw [hf] at h
        simp only at h
        refine altM_in hf ⟨w, e, s, R, E, ?_⟩
        rw [hr]
        intro w1 H1 v x1 R1 r1
        obtain ⟨a, dx, gs, rfl, h2, h3, h4, h5⟩ := r1.asO R1 ho
        have hm1 : hasF C m = false := by
          have := List.all_eq_true.mp hm _ (lookup_mem hf)
          simpa using this
        have hn : fs.lookup m = none := by
          cases hl : fs.lookup m with
          | none => rfl
          | some u =>
            have := List.all_eq_true.mp h4 _ (lookup_mem hl)
            simp only at this
            rw [hm1] at this
            cases this
        refine ⟨a, dx, gs, rfl, h2, h5.none hn, it _ _ _ ⟨w1, e, s1, R1, E.ext x1, Fin.bind (Fin.ext h x1) fun d2 s2 w2 H2 v2 x2 R2 r2 h6 => ?_⟩⟩
        exact ⟨w2, _, s2, R2, .cons (r1.ext x2) r2, h6⟩
theorem i_meth {l : List (String × MF)} {m : String} {ma : ME} {ms : MA} (hm : (l.all fun q => !hasF q.1 m) = true) : ∀ σ H Q, cE K p W (eMeth l ma ms) σ H Q → altM K m (WE W) (cE K p W ma) (cA K p W ms) l σ H Q := i_methG (fun _ _ _ h => h) hm
theorem i_meth0 {l : List (String × MF)} {m : String} {ma : ME} (hm : (l.all fun q => !hasF q.1 m) = true) : ∀ σ H Q, cE K p W (eMeth l ma aNil) σ H Q → altM K m (WE W) (cE K p W ma) tNil l σ H Q := i_methG i_nil hm
end
end Ps

/-! # soundness: walks, loops, statements -/
namespace Ps
open PySem PySem.Spec PyProof.Rows L2 Vs He Pm
abbrev cS (K : PySem.W.Frag) (p : Px) (W : WX) (m : MS) : TS := fun D σ H => ∃ w e s, Rel K w H s ∧ RelE K p w H e σ ∧ FinS K p w H D W (m e s)
abbrev cG (K : PySem.W.Frag) (p : Px) (ws : List Nat) (m : MG) : TG := fun v σ H P => ∃ w e s d e', Rel K w H s ∧ RelE K p w H e σ ∧ Rv K w.r (w.G H) v d ∧ m d e s = some e' ∧ ∀ σ', RelE K p w H e' σ' → (∀ vs, (∀ i ∈ ws, i ∈ vs) → L2.wipe σ' vs = L2.wipe σ vs) → P σ' H
abbrev cGs (K : PySem.W.Frag) (p : Px) (ws : List Nat) (m : MGs) : TGs := fun us σ H P => ∃ w e s ds e', Rel K w H s ∧ RelE K p w H e σ ∧ RvL K w.r (w.G H) us ds ∧ m ds e s = some e' ∧ ∀ σ', RelE K p w H e' σ' → (∀ vs, (∀ i ∈ ws, i ∈ vs) → L2.wipe σ' vs = L2.wipe σ vs) → P σ' H
/-- an iterator over these items -/
abbrev relI (K : PySem.W.Frag) : List Addr → Hp → It → (List Dx × Option Nat) → Prop := fun r G J x => ∀ w H s, Pre r w.r → Same G (w.G H) → Rel K w H s → stands x.2 x.1 s → J.stop x.1.length H ∧ ∀ i d, x.1[i]? = some d → J.go i H ∧ ∀ v H', J.yld i H v H' → H' = H ∧ Rv K w.r (w.G H) v d
abbrev cI (K : PySem.W.Frag) (p : Px) (W : WX) (m : MW) : TI := fun σ H Q => ∃ w e s, Rel K w H s ∧ RelE K p w H e σ ∧ Fin K w H (relI K) Q (WE W σ) (m e s)
section
variable {X : Cx}
theorem imS {st : Stmt} {t u : TS} (i : ∀ D σ H, u D σ H → t D σ H) (h : PS X st t) : PS X st u := ⟨fun pins s σ H D I q => h.run pins s σ H D I (i D σ H q)⟩
theorem imSs {st : List Stmt} {t u : TS} (i : ∀ D σ H, u D σ H → t D σ H) (h : PSs X st t) : PSs X st u := ⟨fun pins s σ H D I q => h.run pins s σ H D I (i D σ H q)⟩
theorem imG {e : Expr} {t u : TG} (i : ∀ v σ H Q, u v σ H Q → t v σ H Q) (h : PG X e t) : PG X e u := ⟨fun pins s σ H v x Q I r q => h.run pins s σ H v x Q I r (i v σ H Q q)⟩
theorem imGs {e : List Expr} {t u : TGs} (i : ∀ v σ H Q, u v σ H Q → t v σ H Q) (h : PGs X e t) : PGs X e u := ⟨fun pins s σ H v x Q I r q => h.run pins s σ H v x Q I r (i v σ H Q q)⟩
theorem imI {tg e : Expr} {t u : TI} (i : ∀ σ H Q, u σ H Q → t σ H Q) (h : PI X tg e t) : PI X tg e u := ⟨fun pins s σ H Q I q => h.run pins s σ H Q I (i σ H Q q)⟩
end
section
variable {K : PySem.W.Frag} {p : Px} {W : WX}
/-! ## targets -/
theorem wipe_at : ∀ (vs : List Nat) (σ : L2.St) (j : Nat), (L2.wipe σ vs)[j]? = if j ∈ vs ∧ j < σ.length then some none else σ[j]?
  | [], σ, j => by simp [L2.wipe]
  | v :: vs, σ, j => by
    have ih := wipe_at vs σ j
    have hl : ∀ ws : List Nat, (L2.wipe σ ws).length = σ.length := by
      intro ws
      induction ws with
      | nil => rfl
      | cons a ws ih => simp [L2.wipe, ih]
    unfold L2.wipe
    by_cases q : v = j
    · subst q
      by_cases hj : v < σ.length
      · rw [List.getElem?_set_self (by rw [hl]; exact hj), if_pos ⟨List.mem_cons_self, hj⟩]
      · rw [if_neg fun z => hj z.2, List.getElem?_eq_none (by simp [hl]; omega), List.getElem?_eq_none (by omega)]
    · rw [List.getElem?_set_ne q, ih]
      have : (j ∈ v :: vs) ↔ j ∈ vs := by rw [List.mem_cons]; exact ⟨fun z => z.elim (fun z => absurd z.symm q) id, .inr⟩
      simp only [this]
theorem wipe_set {σ : L2.St} {i : Nat} {x : Option V} {vs : List Nat} (h : i ∈ vs) : L2.wipe (σ.set i x) vs = L2.wipe σ vs := by
  apply List.ext_getElem?
  intro j
  rw [wipe_at, wipe_at, List.length_set]
  by_cases q : i = j
  · subst q
    by_cases hj : i < σ.length
    · rw [if_pos ⟨h, hj⟩, if_pos ⟨h, hj⟩]
    · rw [if_neg fun z => hj z.2, if_neg fun z => hj z.2, List.getElem?_eq_none (by simp; omega), List.getElem?_eq_none (by omega)]
  · rw [List.getElem?_set_ne q]
theorem i_hNm {i : Nat} (hf : p.free i) : ∀ v σ H Q, cG K p [i] (hNm i) v σ H Q → gName i v σ H Q := fun v σ H Q ⟨w, e, s, d, e', R, E, r, q, h⟩ => by
  cases q
  exact h _ (E.set r hf) fun vs hv => wipe_set (hv i (List.mem_singleton.mpr rfl))
theorem i_hNil : ∀ v σ H Q, cGs K p [] hNil v σ H Q → gNil v σ H Q := fun v σ H Q ⟨w, e, s, d, e', R, E, r, q, h⟩ => by
  unfold hNil at q
  split at q
  · cases q; cases r; exact ⟨rfl, h σ E fun _ _ => rfl⟩
  · cases q
theorem i_hCons {ws us : List Nat} {g : MG} {gs : MGs} : ∀ v σ H Q, cGs K p (ws ++ us) (hCons g gs) v σ H Q → gCons (cG K p ws g) (cGs K p us gs) v σ H Q := fun v σ H Q ⟨w, e, s, d, e', R, E, r, q, h⟩ => by
  unfold hCons at q
  split at q
  · obtain ⟨e1, q1, q2⟩ := Option.bind_eq_some_iff.mp q
    cases r with
    | cons r l =>
      refine ⟨_, _, rfl, w, e, s, _, e1, R, E, r, q1, fun σ1 E1 w1 => ⟨w, e1, s, _, e', R, E1, l, q2, fun σ2 E2 w2 => h σ2 E2 fun vs hv => ?_⟩⟩
      rw [w2 vs fun i hi => hv i (List.mem_append_right _ hi), w1 vs fun i hi => hv i (List.mem_append_left _ hi)]
  · cases q
theorem i_hTup {ws : List Nat} {n : Nat} {gs : MGs} : ∀ v σ H Q, cG K p ws (hTup n gs) v σ H Q → gTup K n (cGs K p ws gs) v σ H Q := fun v σ H Q ⟨w, e, s, d, e', R, E, r, q, h⟩ => by
  unfold hTup at q
  split at q
  · cases r with
    | tup h1 l =>
      split at q
      · rename_i hn
        exact ⟨_, _, rfl, seqT_same hid_same h1, by rw [l.len]; exact hn, w, e, s, _, e', R, E, l, q, h⟩
      · cases q
  · cases q
/-! ## what is walked -/
theorem relI_list {a : Addr} {vs : List V} {ds : List Dx} {r : List Addr} {G : Hp} (h : SqL K G a vs) (l : RvL K r G vs ds) : relI K r G (Itl K a) (ds, none) := fun w H s pr sm R st => by
  have h2 : SqL K H a vs := seqL_same (Same.trans sm hid_same) h
  refine ⟨⟨vs, h2, by rw [l.len]; exact Nat.le_refl _⟩, fun i d hd => ?_⟩
  obtain ⟨v, hv, rv⟩ := l.at_ hd
  refine ⟨⟨vs, v, h2, hv⟩, fun x H' hy => ?_⟩
  obtain ⟨rfl, hy⟩ := hy
  have := hy vs h2
  rw [hv] at this
  cases this
  exact ⟨rfl, rv.mono sm pr⟩
theorem relI_tup {a : Addr} {vs : List V} {ds : List Dx} {r : List Addr} {G : Hp} (h : SqT K G a vs) (l : RvL K r G vs ds) : relI K r G (Itt K a) (ds, none) := fun w H s pr sm R st => by
  have h2 : SqT K H a vs := seqT_same (Same.trans sm hid_same) h
  refine ⟨⟨vs, h2, by rw [l.len]; exact Nat.le_refl _⟩, fun i d hd => ?_⟩
  obtain ⟨v, hv, rv⟩ := l.at_ hd
  refine ⟨⟨vs, v, h2, hv⟩, fun x H' hy => ?_⟩
  obtain ⟨rfl, hy⟩ := hy
  have := hy vs h2
  rw [hv] at this
  cases this
  exact ⟨rfl, rv.mono sm pr⟩
theorem relI_cell {a : Addr} {n : Nat} {ds : List Dx} {r : List Addr} {G : Hp} (h : r[n]? = some a) : relI K r G (Itl K a) (ds, some n) := fun w H s pr sm R st => by
  obtain ⟨o, h1, h2⟩ := R.at_ (pr _ _ h) st
  cases h2 with
  | lst l =>
    rename_i vs
    refine ⟨⟨vs, SqL.of h1, by rw [l.len]; exact Nat.le_refl _⟩, fun i d hd => ?_⟩
    obtain ⟨v, hv, rv⟩ := l.at_ hd
    refine ⟨⟨vs, v, SqL.of h1, hv⟩, fun x H' hy => ?_⟩
    obtain ⟨rfl, hy⟩ := hy
    have := hy vs (SqL.of h1)
    rw [hv] at this
    cases this
    exact ⟨rfl, rv⟩
theorem relI_str {z : Tx} {r : List Addr} {G : Hp} (hz : okT z) : relI K r G (Its (tS z)) (z.map fun c => .str [c], none) := fun w H s pr sm R st => by
  have hs : (tS z).cps.size = z.length := by simp [tS]
  refine ⟨by show (tS z).cps.size ≤ _; rw [hs]; simp, fun i d hd => ?_⟩
  rw [List.getElem?_map] at hd
  obtain ⟨c, hc, rfl⟩ := Option.map_eq_some_iff.mp hd
  have hi : i < z.length := (List.getElem?_eq_some_iff.mp hc).1
  refine ⟨by show i < (tS z).cps.size; rw [hs]; exact hi, fun x H' hy => ?_⟩
  obtain ⟨rfl, c', hc', rfl⟩ := hy
  have e : (tS z).cps[i]? = z[i]? := by simp [tS]
  rw [e, hc] at hc'
  cases hc'
  refine ⟨rfl, ?_⟩
  have : (⟨#[c]⟩ : Str) = tS [c] := rfl
  rw [this]
  exact .str fun q hq => by rw [List.mem_singleton] at hq; subst hq; exact hz _ (List.mem_of_getElem? hc)
theorem relI_rng {lo : Int} {n : Nat} {r : List Addr} {G : Hp} : relI K r G (Itr lo n) (rng lo n, none) := fun w H s pr sm R st => by
  refine ⟨by show n ≤ _; simp [rng], fun i d hd => ?_⟩
  unfold rng at hd
  rw [List.getElem?_map] at hd
  obtain ⟨c, hc, rfl⟩ := Option.map_eq_some_iff.mp hd
  have hi : i < n := by
    have := (List.getElem?_eq_some_iff.mp hc).1
    simpa using this
  rw [List.getElem?_range hi] at hc
  cases hc
  exact ⟨hi, fun x H' hy => by obtain ⟨rfl, rfl⟩ := hy; exact ⟨rfl, .int _⟩⟩
theorem i_wD {ma : ME} : ∀ σ H Q, cI K p W (wD ma) σ H Q → iList K (cE K p W ma) σ H Q ∨ (iTup K (cE K p W ma) σ H Q ∨ iStr (cE K p W ma) σ H Q) := fun σ H Q ⟨w, e, s, R, E, h⟩ => by
  unfold wD at h
  cases hr : ma e s with
  | stuck => rw [hr] at h; exact h.elim
  | exc C fs s1 => rw [hr] at h; exact .inl ⟨w, e, s, R, E, by rw [hr]; exact h⟩
  | ok d s1 =>
    rw [hr] at h
    simp only [Pm.R.bind] at h
    split at h
    · refine .inl ⟨w, e, s, R, E, ?_⟩
      rw [hr]; intro w1 H1 v x1 R1 r1
      cases r1 with
      | lst h2 l => exact ⟨_, rfl, ⟨_, SqL.of (hid_some h2).2⟩, Fin.now (Fin.ext h x1) R1 (relI_list (SqL.of h2) l)⟩
    · refine .inl ⟨w, e, s, R, E, ?_⟩
      rw [hr]; intro w1 H1 v x1 R1 r1
      cases r1 with
      | fro h2 l => exact ⟨_, rfl, ⟨_, seqL_same hid_same h2⟩, Fin.now (Fin.ext h x1) R1 (relI_list h2 l)⟩
    · refine .inr (.inl ⟨w, e, s, R, E, ?_⟩)
      rw [hr]; intro w1 H1 v x1 R1 r1
      cases r1 with
      | tup h2 l => exact ⟨_, rfl, ⟨_, seqT_same hid_same h2⟩, Fin.now (Fin.ext h x1) R1 (relI_tup h2 l)⟩
    · refine .inr (.inr ⟨w, e, s, R, E, ?_⟩)
      rw [hr]; intro w1 H1 v x1 R1 r1
      cases r1 with
      | str hz => exact ⟨_, rfl, Fin.now (Fin.ext h x1) R1 (relI_str hz)⟩
    · split at h
      · rename_i hs
        refine .inl ⟨w, e, s, R, E, ?_⟩
        rw [hr]; intro w1 H1 v x1 R1 r1
        cases r1 with
        | cell h2 =>
          obtain ⟨o, h3, h4⟩ := R1.at_ h2 hs
          cases h4 with
          | lst l => exact ⟨_, rfl, ⟨_, SqL.of h3⟩, Fin.now (Fin.ext h x1) R1 (relI_cell h2)⟩
      · exact h.elim
    · exact h.elim
theorem pi_or {X : Cx} {tg e : Expr} {t u : TI} (h : PI X tg e t) (k : PI X tg e u) : PI X tg e (fun σ H R => t σ H R ∨ u σ H R) := ⟨fun pins s σ H Q I q => q.elim (h.run pins s σ H Q I) (k.run pins s σ H Q I)⟩
theorem qi_D {X : Cx} {tg e : Expr} {ma : ME} (h : PE X e (cE X.K p W ma)) : PI X tg e (cI X.K p W (wD ma)) := imI i_wD (pi_or (pi_list h) (pi_or (pi_tup h) (pi_str h)))
theorem i_wRng1 {ms : MA} : ∀ σ H Q, cI K p W (wRng1 ms) σ H Q → iRng1 (cA K p W ms) σ H Q := fun σ H Q ⟨w, e, s, R, E, h⟩ =>
  ⟨w, e, s, R, E, Fin.bind h fun d s1 w1 H1 v x1 R1 r1 h1 => by
    split at h1
    · cases r1 with | cons r1 l =>
      cases l; cases r1
      split at h1
      · exact ⟨_, rfl, by omega, by omega, Fin.now h1 R1 relI_rng⟩
      · exact h1.elim
    · exact h1.elim⟩
theorem i_wRng2 {ms : MA} : ∀ σ H Q, cI K p W (wRng2 ms) σ H Q → iRng2 (cA K p W ms) σ H Q := fun σ H Q ⟨w, e, s, R, E, h⟩ =>
  ⟨w, e, s, R, E, Fin.bind h fun d s1 w1 H1 v x1 R1 r1 h1 => by
    split at h1
    · cases r1 with | cons r1 l =>
      cases l with | cons r2 l =>
      cases l; cases r1; cases r2
      split at h1
      · exact ⟨_, _, rfl, ⟨by omega, by omega, by omega, by omega⟩, Fin.now h1 R1 relI_rng⟩
      · exact h1.elim
    · exact h1.elim⟩
/-! ## statements -/
theorem i_next : ∀ D σ H, cS K p W sNext D σ H → tNext D σ H := fun D σ H ⟨w, e, s, R, E, h⟩ => h w H σ (Ext.refl _ _ _) R E
theorem i_brk : ∀ D σ H, cS K p W sBreak D σ H → tBreak D σ H := fun D σ H ⟨w, e, s, R, E, h⟩ => h w H σ (Ext.refl _ _ _) R E
theorem i_cnt : ∀ D σ H, cS K p W sCont D σ H → tCont D σ H := fun D σ H ⟨w, e, s, R, E, h⟩ => h w H σ (Ext.refl _ _ _) R E
theorem i_retN : ∀ D σ H, cS K p W sRetN D σ H → tRetN D σ H := fun D σ H ⟨w, e, s, R, E, h⟩ => h w H .non (Ext.refl _ _ _) R .non
theorem i_ret {ma : ME} : ∀ D σ H, cS K p W (sRet ma) D σ H → tRet (cE K p W ma) D σ H := fun D σ H ⟨w, e, s, R, E, h⟩ =>
  ⟨w, e, s, R, E, FinS.bind E h fun d s1 w1 H1 v x1 R1 r1 h1 => h1 w1 H1 v (Ext.refl _ _ _) R1 r1⟩
theorem i_drop {ma : ME} : ∀ D σ H, cS K p W (sDrop ma) D σ H → tDrop (cE K p W ma) D σ H := fun D σ H ⟨w, e, s, R, E, h⟩ =>
  ⟨w, e, s, R, E, FinS.bind E h fun d s1 w1 H1 v x1 R1 r1 h1 => h1 w1 H1 σ (Ext.refl _ _ _) R1 (E.ext x1)⟩
theorem i_seq {a b : MS} : ∀ D σ H, cS K p W (sSeq a b) D σ H → tSeq (cS K p W a) (cS K p W b) D σ H := fun D σ H ⟨w, e, s, R, E, h⟩ => by
  refine ⟨w, e, s, R, E, ?_⟩
  unfold sSeq at h
  cases hr : a e s with
  | nx e1 s1 => rw [hr] at h; exact fun w' H' σ' x R' E' => ⟨w', e1, s1, R', E', FinS.ext h x⟩
  | rt v s1 => rw [hr] at h; exact h
  | bk e1 s1 => rw [hr] at h; exact h
  | ct e1 s1 => rw [hr] at h; exact h
  | exc C fs e1 s1 => rw [hr] at h; exact h
  | stuck => rw [hr] at h; exact h
theorem i_ifS {mt : MT} {a b : MS} : ∀ D σ H, cS K p W (sIf mt a b) D σ H → tIfS (cT K p W mt) (cS K p W a) (cS K p W b) D σ H := fun D σ H ⟨w, e, s, R, E, h⟩ =>
  ⟨w, e, s, R, E, FinS.bind E h fun d s1 w1 H1 v x1 R1 r1 h1 => by
    cases r1
    by_cases hc : d = true
    · rw [if_pos hc] at h1 ⊢; exact ⟨w1, e, s1, R1, E.ext x1, h1⟩
    · rw [if_neg hc] at h1 ⊢; exact ⟨w1, e, s1, R1, E.ext x1, h1⟩⟩
theorem i_asg {ma : ME} {g : MG} {ws : List Nat} : ∀ D σ H, cS K p W (sAsg ma g) D σ H → tAsg (cE K p W ma) (cG K p ws g) D σ H := fun D σ H ⟨w, e, s, R, E, h⟩ =>
  ⟨w, e, s, R, E, FinS.bind E h fun d s1 w1 H1 v x1 R1 r1 h1 => by
    split at h1
    · rename_i e1 he
      exact ⟨w1, e, s1, d, e1, R1, E.ext x1, r1, he, fun σ' E' _ => h1 w1 H1 σ' (Ext.refl _ _ _) R1 E'⟩
    · exact h1.elim⟩
theorem i_aug {i : Nat} {ma : ME} {f : O2} {ti : TIp} (hf : p.free i) (sr : SimO2 K ti f) : ∀ D σ H, cS K p W (sAug i ma f) D σ H → tAug i (cE K p W ma) ti D σ H := fun D σ H ⟨w, e, s, R, E, h⟩ => by
  unfold sAug at h
  split at h
  · rename_i d0 hd
    obtain ⟨v0, hv, r0⟩ := E.sl _ _ hd
    exact ⟨v0, hv, w, e, s, R, E, FinS.bind E h fun d s1 w1 H1 v x1 R1 r1 h1 => sr w1 H1 s1 _ _ _ _ _ (WE W σ) R1 (r0.ext x1) r1 (FinS.bind (E.ext x1) h1 fun d2 s2 w2 H2 v2 x2 R2 r2 h2 => h2 w2 H2 _ (Ext.refl _ _ _) R2 (((E.ext x1).ext x2).set r2 hf))⟩
  · exact h.elim
theorem sim_addI : SimO2 K (ipI fun i j => i + j) addI := by
  intro w H s x y d e Q E R hx hy h
  unfold addI at h
  split at h
  · cases hx; cases hy; exact ⟨_, _, rfl, rfl, Fin.now h R (.int _)⟩
  · exact h.elim
theorem sim_subI : SimO2 K (ipI fun i j => i - j) subD := by
  intro w H s x y d e Q E R hx hy h
  unfold subD at h
  split at h
  · cases hx; cases hy; exact ⟨_, _, rfl, rfl, Fin.now h R (.int _)⟩
  · exact h.elim
theorem Rel.updH {w : Wd} {H : Hp} {s : Sto} (R : Rel K w H s) {x : Addr} (hx : x ∈ w.h) (o : HO) : Rel K w (upd H x o) s ∧ Ext [x] w H w (upd H x o) ∧ w.G (upd H x o) = w.G H := by
  have g : w.G (upd H x o) = w.G H := by
    funext b
    unfold Wd.G hid
    split
    · rfl
    · rename_i hb
      exact upd_ne fun z => hb (z ▸ List.mem_append_left _ hx)
  have nr : ∀ b ∈ w.r, b ≠ x := fun b hb z => (List.nodup_append.mp R.nd).2.2 x hx b hb z.symm
  refine ⟨⟨R.nd, fun b hb => ?_, R.len, fun m c hm => ?_, R.tb⟩, ⟨rfl, ⟨[], by simp⟩, by rw [g]; exact Same.refl _, fun b _ hn => upd_ne fun z => hn (List.mem_singleton.mpr z)⟩, g⟩
  · by_cases q : b = x
    · subst q; rw [upd_same]; exact nofun
    · rw [upd_ne q]; exact R.al b hb
  · obtain ⟨a, u, h1, h2, h3⟩ := R.ce m c hm
    rw [g]
    exact ⟨a, u, h1, by rw [upd_ne (nr a (List.mem_of_getElem? h1))]; exact h2, h3⟩
/-- self.f = v in an __init__ -/
theorem i_me (hc : Hc K) {f : String} {ma : ME} {x dx : Addr} {C : String} (hp : p.f = some (x, dx, C)) (hf : hasF C f = true) : ∀ D σ H, cS K p W (sMe f ma) D σ H → sFld K (tVar 0) (cE K p W ma) (Str.ofString f) D σ H := fun D σ H ⟨w, e, s, R, E, h⟩ =>
  ⟨w, e, s, R, E, FinS.bind E h fun d s1 w1 H1 v x1 R1 r1 h1 => by
    have E1 := E.ext x1
    have m := E1.me
    unfold MeOk at m
    rw [hp] at m
    obtain ⟨m1, m0, m2, m3, m4, gs, m5, m6⟩ := m
    split at h1
    · rename_i hl
      refine ⟨_, m1, x, _, dx, gs, rfl, m5, hc.cls m3, hc.na hf, by rw [m6.len]; omega, ?_⟩
      obtain ⟨R2, e2, g2⟩ := R1.updH m2 (.ins (ga K C) dx (L2.putF (Str.ofString f) v gs))
      refine h1 w1 _ σ (by unfold Px.z; rw [hp]; exact e2) R2 ⟨E1.len, fun i u hu => by rw [g2]; exact E1.sl i u hu, ?_, ?_, fun b hb => by rw [g2]; exact E1.an b hb⟩
      · unfold MeOk
        rw [hp]
        refine ⟨m1, m0, m2, m3, putF_all hf m4, _, upd_same, ?_⟩
        rw [g2]
        exact m6.put r1 f
      · have q := E1.ex
        unfold ExOk at q ⊢
        rw [g2]
        exact q
    · exact h1.elim⟩
/-! ## comprehensions -/
theorem wipe_wipe {σ : L2.St} {vs : List Nat} : L2.wipe (L2.wipe σ vs) vs = L2.wipe σ vs := by
  apply List.ext_getElem?
  intro j
  have hl : ∀ ws : List Nat, (L2.wipe σ ws).length = σ.length := by
    intro ws
    induction ws with
    | nil => rfl
    | cons a ws ih => simp [L2.wipe, ih]
  rw [wipe_at, wipe_at, hl]
  by_cases h : j ∈ vs ∧ j < σ.length
  · simp only [if_pos h]
  · simp only [if_neg h]
theorem bind_cons {α : Type} {r : Pm.R (List Dx)} {y : Dx} {ds : List Dx} {k : List Dx → Sto → Pm.R α} : ((r.bind fun ys s3 => .ok (y :: ys) s3).bind fun ys s3 => k (ds ++ ys) s3) = r.bind fun ys s3 => k ((ds ++ [y]) ++ ys) s3 := by
  cases r <;> simp
theorem i_lc {c : Bool} {mw : MW} {g : MG} {tt : MT} {te : ME} {gs ws : List Nat} (hw : ∀ i ∈ ws, p.free i) (hs : ∀ i ∈ gs, i ∈ ws) : ∀ σ H Q, cE K p W (eLc c mw g tt te ws) σ H Q → tLc (cI K p W mw) (cG K p gs g) (cT K p Wn tt) (cE K p Wn te) ws σ H Q := fun σ H Q ⟨w, e, s, R, E, h⟩ =>
  ⟨w, e, s, R, E, Fin.bind h fun x s1 w1 H1 J x1 R1 r1 h1 D hD => by
    obtain ⟨xs, cc⟩ := x
    split at h1
    · rename_i hl
      have E1 := E.ext x1
      refine ⟨fun i m Hc => m + i = xs.length ∧ ∃ w2 s2 vs ds, ExtH D w1 H1 w2 Hc ∧ Rel K w2 Hc s2 ∧ Hc D = some (.lst vs) ∧ RvL K w2.r (w2.G Hc) vs ds ∧ ds.length ≤ i ∧
        Fin K w1 H1 (Rv K) Q (WE W σ) ((lcL g tt te { e with sl := wipeE e.sl ws } cc xs (xs.drop i) s2).bind fun ys s3 => Pm.newL c (ds ++ ys) s3), ⟨xs.length, by omega, ?_⟩, fun i m Hc ⟨hm, w2, s2, vs, ds, eH, R2, hD2, l2, hi, hF⟩ => ?_⟩
      · obtain ⟨R2, e2⟩ := R1.hide hD (.lst [])
        exact ⟨_, s1, [], [], e2, R2, upd_same, .nil, Nat.le_refl _, h1⟩
      · have Dm : D ∈ w2.h := by rw [eH.h]; exact List.mem_cons_self
        by_cases hlt : i < xs.length
        · have hd : xs.drop i = xs[i] :: xs.drop (i + 1) := List.drop_eq_getElem_cons hlt
          rw [hd] at hF
          unfold lcL at hF
          by_cases st : stands cc xs s2
          · rw [if_pos st] at hF
            obtain ⟨_, hy⟩ := r1 w2 Hc s2 eH.pre eH.s R2 st
            obtain ⟨hgo, hyl⟩ := hy i xs[i] (List.getElem?_eq_getElem hlt)
            refine .inr ⟨hgo, fun H' => (m - 1) + (i + 1) = xs.length ∧ ∃ w2 s2 vs ds, ExtH D w1 H1 w2 H' ∧ Rel K w2 H' s2 ∧ H' D = some (.lst vs) ∧ RvL K w2.r (w2.G H') vs ds ∧ ds.length ≤ i + 1 ∧
              Fin K w1 H1 (Rv K) Q (WE W σ) ((lcL g tt te { e with sl := wipeE e.sl ws } cc xs (xs.drop (i + 1)) s2).bind fun ys s3 => Pm.newL c (ds ++ ys) s3), fun H' hH => ⟨m - 1, by omega, hH⟩, fun v H' hv => ?_⟩
            obtain ⟨rfl, rv⟩ := hyl v H' hv
            cases he : g xs[i] { e with sl := wipeE e.sl ws } s2 with
            | none => rw [he] at hF; exact hF.elim
            | some e1 =>
              rw [he] at hF
              simp only at hF
              have E2 : RelE K p w2 H' { e with sl := wipeE e.sl ws } (L2.wipe σ ws) := (E1.ext' eH.s eH.pre fun a ha => ⟨by rw [eH.h]; exact List.mem_cons_of_mem _ ha, eH.k a ha⟩).wipe ws hw
              refine ⟨w2, _, s2, xs[i], e1, R2, E2, rv, he, fun σ2 Es hw2 => ⟨by rw [hw2 ws hs, wipe_wipe], w2, e1, s2, R2, Es, ?_⟩⟩
              cases ht : tt e1 s2 with
              | stuck => rw [ht] at hF; exact hF.elim
              | exc C fs s3 => rw [ht] at hF; exact hF.elim
              | ok b s3 =>
                rw [ht] at hF
                simp only [Pm.R.calm, Pm.R.bind] at hF
                intro w3 H3 b' x3 R3 hb
                cases hb
                cases b with
                | false =>
                  simp only [Bool.false_eq_true, if_false] at hF ⊢
                  exact ⟨by omega, w3, s3, vs, ds, eH.trans x3 (fun a ha => by cases ha), R3, by rw [x3.k D Dm (by simp)]; exact hD2, l2.ext x3, by omega, hF⟩
                | true =>
                  simp only [if_true] at hF ⊢
                  refine ⟨w3, e1, s3, R3, Es.ext x3, ?_⟩
                  cases hu : te e1 s3 with
                  | stuck => rw [hu] at hF; exact hF.elim
                  | exc C fs s4 => rw [hu] at hF; exact hF.elim
                  | ok y s4 =>
                    rw [hu] at hF
                    simp only [Pm.R.calm, Pm.R.bind] at hF
                    intro w4 H4 v4 x4 R4 r4
                    have e24 : ExtH D w1 H1 w4 H4 := (eH.trans x3 (fun a ha => by cases ha)).trans x4 (fun a ha => by cases ha)
                    have Dm4 : D ∈ w4.h := by rw [e24.h]; exact List.mem_cons_self
                    have hD4 : H4 D = some (.lst vs) := by rw [x4.k D (by rw [x3.h]; exact Dm) (by simp), x3.k D Dm (by simp)]; exact hD2
                    obtain ⟨R5, e5, g5⟩ := R4.updH Dm4 (.lst (vs ++ [v4]))
                    refine ⟨vs, hD4, by rw [l2.len]; exact most_lt (Nat.lt_of_le_of_lt hi (Nat.lt_of_lt_of_le hlt hl)), by omega, w4, s4, vs ++ [v4], ds ++ [y], e24.trans e5 (fun a ha => List.mem_singleton.mp ha), R5, upd_same, ?_, by simp; omega, ?_⟩
                    · rw [g5]
                      exact ((l2.ext x3).ext x4).app (.cons r4 .nil)
                    · rw [← bind_cons]; exact hF
          · rw [if_neg st] at hF; exact hF.elim
        · have hie : i = xs.length := by omega
          have hd : xs.drop i = [] := List.drop_eq_nil_of_le (by omega)
          rw [hd] at hF
          unfold lcL at hF
          by_cases st : stands cc xs s2
          · rw [if_pos st] at hF
            obtain ⟨hst, _⟩ := r1 w2 Hc s2 eH.pre eH.s R2 st
            refine .inl ⟨by rw [hie]; exact hst, ?_⟩
            simp only [Pm.R.bind, List.append_nil] at hF
            cases c with
            | false =>
              obtain ⟨R4, e4, g4, d4⟩ := R2.unhide eH
              exact hF _ _ _ e4 R4 (.lst (d4.trans hD2) (l2.mono g4 (Pre.refl _)))
            | true =>
              obtain ⟨R4, e4⟩ := R2.unhideC eH hD2 (.lst l2)
              refine hF _ _ _ e4 R4 (.cell ?_)
              show (w2.r ++ [D])[s2.length]? = some D
              rw [← R2.len]; simp
          · rw [if_neg st] at hF; exact hF.elim
    · exact h1.elim⟩
/-! ## loops -/
theorem i_for {mw : MW} {g : MG} {b : MS} {gs : List Nat} : ∀ D σ H, cS K p W (sFor mw g b) D σ H → tFor (cI K p W mw) (cG K p gs g) (cS K p W b) D σ H := fun D σ H ⟨w, e, s, R, E, h⟩ =>
  ⟨w, e, s, R, E, FinS.bind E h fun x s1 w1 H1 J x1 R1 r1 h1 => by
    obtain ⟨xs, cc⟩ := x
    refine ⟨fun i m σc Hc => m + i = xs.length ∧ ∃ w2 e2 s2, Ext p.z w1 H1 w2 Hc ∧ Rel K w2 Hc s2 ∧ RelE K p w2 Hc e2 σc ∧ FinS K p w2 Hc D W (forL g b cc xs (xs.drop i) e2 s2), ⟨xs.length, by omega, w1, e, s1, Ext.refl _ _ _, R1, E.ext x1, h1⟩, fun i m σc Hc ⟨hm, w2, e2, s2, eH, R2, E2, hF⟩ => ?_⟩
    by_cases hlt : i < xs.length
    · have hd : xs.drop i = xs[i] :: xs.drop (i + 1) := List.drop_eq_getElem_cons hlt
      rw [hd] at hF
      unfold forL at hF
      by_cases st : stands cc xs s2
      · rw [if_pos st] at hF
        obtain ⟨_, hy⟩ := r1 w2 Hc s2 eH.pre eH.s R2 st
        obtain ⟨hgo, hyl⟩ := hy i xs[i] (List.getElem?_eq_getElem hlt)
        refine .inr ⟨hgo, fun σ' H' => (m - 1) + (i + 1) = xs.length ∧ ∃ w2 e2 s2, Ext p.z w1 H1 w2 H' ∧ Rel K w2 H' s2 ∧ RelE K p w2 H' e2 σ' ∧ FinS K p w2 H' D W (forL g b cc xs (xs.drop (i + 1)) e2 s2), fun σ' H' hH => ⟨m - 1, by omega, hH⟩, fun v H' hv => ?_⟩
        obtain ⟨rfl, rv⟩ := hyl v H' hv
        cases he : g xs[i] e2 s2 with
        | none => rw [he] at hF; exact hF.elim
        | some e3 =>
          rw [he] at hF
          simp only at hF
          refine ⟨w2, e2, s2, xs[i], e3, R2, E2, rv, he, fun σ3 E3 _ => ⟨w2, e3, s2, R2, E3, ?_⟩⟩
          cases hb : b e3 s2 with
          | nx e4 s4 => rw [hb] at hF; exact fun w4 H4 σ4 x4 R4 E4 => ⟨by omega, w4, e4, s4, eH.trans x4, R4, E4, FinS.ext hF x4⟩
          | ct e4 s4 => rw [hb] at hF; exact fun w4 H4 σ4 x4 R4 E4 => ⟨by omega, w4, e4, s4, eH.trans x4, R4, E4, FinS.ext hF x4⟩
          | bk e4 s4 => rw [hb] at hF; exact hF
          | rt v4 s4 => rw [hb] at hF; exact hF
          | exc C fs e4 s4 => rw [hb] at hF; exact hF
          | stuck => rw [hb] at hF; exact hF
      · rw [if_neg st] at hF; exact hF.elim
    · have hie : i = xs.length := by omega
      have hd : xs.drop i = [] := List.drop_eq_nil_of_le (by omega)
      rw [hd] at hF
      unfold forL at hF
      by_cases st : stands cc xs s2
      · rw [if_pos st] at hF
        obtain ⟨hst, _⟩ := r1 w2 Hc s2 eH.pre eH.s R2 st
        exact .inl ⟨by rw [hie]; exact hst, hF w2 Hc σc (Ext.refl _ _ _) R2 E2⟩
      · rw [if_neg st] at hF; exact hF.elim⟩
theorem i_while {n : Nat} {mt : MT} {b : MS} : ∀ D σ H, cS K p W (sWhile n mt b) D σ H → tWhile (cT K p W mt) (cS K p W b) D σ H := fun D σ H ⟨w, e, s, R, E, h⟩ => by
  refine ⟨fun m σc Hc => ∃ w2 e2 s2, Rel K w2 Hc s2 ∧ RelE K p w2 Hc e2 σc ∧ FinS K p w2 Hc D W (whileL mt b m e2 s2), ⟨n, w, e, s, R, E, h⟩, fun m σc Hc ⟨w2, e2, s2, R2, E2, hF⟩ => ?_⟩
  cases m with
  | zero => exact hF.elim
  | succ m =>
    unfold whileL at hF
    refine ⟨w2, e2, s2, R2, E2, FinS.bind E2 hF fun d s3 w3 H3 v x3 R3 r3 h3 => ?_⟩
    cases r3
    by_cases hc : d = true
    · rw [if_pos hc] at h3 ⊢
      refine ⟨fun σ' H' => ∃ w2 e2 s2, Rel K w2 H' s2 ∧ RelE K p w2 H' e2 σ' ∧ FinS K p w2 H' D W (whileL mt b m e2 s2), fun σ' H' hH => ⟨m, Nat.lt_succ_self m, hH⟩, w3, e2, s3, R3, E2.ext x3, ?_⟩
      cases hb : b e2 s3 with
      | nx e4 s4 => rw [hb] at h3; exact fun w4 H4 σ4 x4 R4 E4 => ⟨w4, e4, s4, R4, E4, FinS.ext h3 x4⟩
      | ct e4 s4 => rw [hb] at h3; exact fun w4 H4 σ4 x4 R4 E4 => ⟨w4, e4, s4, R4, E4, FinS.ext h3 x4⟩
      | bk e4 s4 => rw [hb] at h3; exact h3
      | rt v4 s4 => rw [hb] at h3; exact h3
      | exc C fs e4 s4 => rw [hb] at h3; exact h3
      | stuck => rw [hb] at h3; exact h3
    · rw [if_neg hc] at h3 ⊢
      exact h3 w3 H3 σc (Ext.refl _ _ _) R3 (E2.ext x3)
/-! ## the store's changes -/
theorem i_put {mo mi ma : ME} : ∀ D σ H, cS K p W (sPut mo mi ma) D σ H → tAsg (cE K p W ma) (gSub (cE K p W mo) (cE K p W mi) rSetL) D σ H := fun D σ H ⟨w, e, s, R, E, h⟩ =>
  ⟨w, e, s, R, E, FinS.bind E h fun d s1 w1 H1 v x1 R1 r1 h1 => ⟨w1, e, s1, R1, E.ext x1, FinS.bind (E.ext x1) h1 fun d2 s2 w2 H2 v2 x2 R2 r2 h2 => ⟨w2, e, s2, R2, (E.ext x1).ext x2, FinS.bind ((E.ext x1).ext x2) h2 fun d3 s3 w3 H3 v3 x3 R3 r3 h3 => by
    split at h3
    · rename_i n k
      cases r3
      have r2 := r2.ext x3
      cases r2 with
      | cell hr =>
        split at h3
        · rename_i xs hs
          split at h3
          · rename_i hk
            obtain ⟨o, h4, h5⟩ := R3.at_ hr hs
            cases h5 with
            | lst l =>
              rename_i vs
              obtain ⟨R5, e5⟩ := R3.put hr (Rc.lst (l.set ((r1.ext x2).ext x3) k.toNat))
              refine ⟨_, vs, k, k.toNat, rfl, rfl, h4, ?_, h3 w3 _ σ e5.weak R5 ((((E.ext x1).ext x2).ext x3).ext e5)⟩
              unfold ixN
              rw [if_pos hk.1, if_pos (by rw [l.len]; omega)]
          · exact h3.elim
        · exact h3.elim
    · exact h3.elim⟩⟩⟩
end
end Ps

/-! # soundness: exceptions, changes, texts, calls, defs -/
namespace Ps
open PySem PySem.Spec PyProof.Rows L2 Vs He Pm
def xcB (K : PySem.W.Frag) : Bool := excT.all fun e => excB K (ga K e.1) && (decide (PySem.W.kitOne K (.ref (ga K e.1)) (.type "ValueError") = some true) &&
  ((excT.all fun x => decide (PySem.W.kitOne K (.ref (ga K e.1)) (.ref (ga K x.1)) = some (e.2.1.contains x.1)) && decide (PySem.W.exmOne K (.ref (ga K e.1)) (.ref (ga K x.1)) = some (e.2.1.contains x.1))) &&
  ((e.2.2.all fun f => decide (PySem.W.findIn K (.ref (ga K e.1)) f = some none)) && (e.2.2.isEmpty || oexB K (ga K e.1) (ma K (ga K e.1) "__init__")))))
def Xc (K : PySem.W.Frag) : Prop := xcB K = true
structure XcE (K : PySem.W.Frag) (C : String) (ss fs : List String) : Prop where
  exc : ExcC K (ga K C)
  ve : PySem.W.kitOne K (.ref (ga K C)) (.type "ValueError") = some true
  sub : ∀ x ∈ excT, PySem.W.kitOne K (.ref (ga K C)) (.ref (ga K x.1)) = some (ss.contains x.1) ∧ PySem.W.exmOne K (.ref (ga K C)) (.ref (ga K x.1)) = some (ss.contains x.1)
  na : ∀ f ∈ fs, PySem.W.findIn K (.ref (ga K C)) (Str.ofString f) = some none
  oex : fs.isEmpty = false → OexD K (ga K C) (ma K (ga K C) "__init__")
theorem Xc.e {K : PySem.W.Frag} (h : Xc K) {C : String} {z : List String × List String} (m : excT.lookup C = some z) : XcE K C z.1 z.2 := by
  have h := List.all_eq_true.mp h _ (lookup_mem m)
  obtain ⟨h1, h⟩ := b2 h
  obtain ⟨h2, h⟩ := b2 h
  obtain ⟨h3, h⟩ := b2 h
  obtain ⟨h4, h5⟩ := b2 h
  refine ⟨excB_ok h1, of_decide_eq_true h2, fun x hx => ?_, fun f hf => of_decide_eq_true (List.all_eq_true.mp h4 f hf), fun ze => by
    have h5 : (z.2.isEmpty || oexB K (ga K C) (ma K (ga K C) "__init__")) = true := h5
    rw [ze, Bool.false_or] at h5
    exact oexB_ok h5⟩
  obtain ⟨a1, a2⟩ := b2 (List.all_eq_true.mp h3 x hx)
  exact ⟨of_decide_eq_true a1, of_decide_eq_true a2⟩
theorem Xc.exc {K : PySem.W.Frag} (h : Xc K) {C : String} (m : inX C = true) : ExcC K (ga K C) := let ⟨_, e⟩ := Option.isSome_iff_exists.mp m; (h.e e).exc
theorem Xc.ve {K : PySem.W.Frag} (h : Xc K) {C : String} (m : inX C = true) : PySem.W.kitOne K (.ref (ga K C)) (.type "ValueError") = some true := let ⟨_, e⟩ := Option.isSome_iff_exists.mp m; (h.e e).ve
theorem Xc.sub {K : PySem.W.Frag} (h : Xc K) {C X : String} (m : inX C = true) (n : inX X = true) : PySem.W.kitOne K (.ref (ga K C)) (.ref (ga K X)) = some (isSubX C X) ∧ PySem.W.exmOne K (.ref (ga K C)) (.ref (ga K X)) = some (isSubX C X) := by
  obtain ⟨z, e⟩ := Option.isSome_iff_exists.mp m
  obtain ⟨x, e2⟩ := Option.isSome_iff_exists.mp n
  unfold isSubX
  rw [e]
  exact (h.e e).sub (X, x) (lookup_mem e2)
def hasXF (C f : String) : Bool := match excT.lookup C with
  | some z => z.2.contains f
  | none => false
theorem Xc.na {K : PySem.W.Frag} (h : Xc K) {C f : String} (m : hasXF C f = true) : PySem.W.findIn K (.ref (ga K C)) (Str.ofString f) = some none := by
  unfold hasXF at m
  cases e : excT.lookup C with
  | none => rw [e] at m; cases m
  | some z =>
    rw [e] at m
    exact (h.e e).na f (List.contains_iff_mem.mp m)
theorem Xc.oex {K : PySem.W.Frag} (h : Xc K) {C f : String} (m : hasXF C f = true) : OexD K (ga K C) (ma K (ga K C) "__init__") := by
  unfold hasXF at m
  cases e : excT.lookup C with
  | none => rw [e] at m; cases m
  | some z =>
    rw [e] at m
    refine (h.e e).oex ?_
    have m := List.contains_iff_mem.mp m
    cases hz : z.2 with
    | nil => rw [hz] at m; cases m
    | cons a l => rfl
theorem Xc.xf {K : PySem.W.Frag} (h : Xc K) {C : String} (m : inX C = true) : XfC K (ga K C) := let e := h.exc m; ⟨e.hg, e.hk, e.hs, e.hd⟩
theorem hasXF_in {C f : String} (m : hasXF C f = true) : inX C = true := by
  unfold hasXF at m
  unfold inX
  cases e : excT.lookup C with
  | none => rw [e] at m; cases m
  | some z => rfl
section
variable {K : PySem.W.Frag} {p : Px} {W : WX}
/-! ## try, raise -/
theorem i_try (hx : Xc K) {X : String} {i : Nat} {mb ms : MS} (m : inX X = true) (hp : p.x = none) (hf : p.free i) (han : p.an = none := by rfl) : ∀ D σ H, cS K p W (sTry mb X i ms) D σ H →
    tTryAs K (.ref (ga K X)) i (fun W' => cS K p W' mb) (fun a cls d => cS K ⟨some (a, cls, d), i, p.f, none⟩ Wn ms) W D σ H := fun D σ H ⟨w, e, s, R, E, h⟩ => by
  refine ⟨w, e, s, R, E, ?_⟩
  unfold sTry at h
  have he : ∀ {w1 : Wd} {H1 : Hp} {e1 : En} {σ1 : L2.St}, RelE K p w1 H1 e1 σ1 → e1.ex = none := fun E1 => by
    have q := E1.ex
    unfold ExOk at q
    rw [hp] at q
    exact q
  cases hr : mb e s with
  | nx e1 s1 => rw [hr] at h; exact h
  | rt v s1 => rw [hr] at h; exact h
  | bk e1 s1 => rw [hr] at h; exact h
  | ct e1 s1 => rw [hr] at h; exact h
  | stuck => rw [hr] at h; exact h
  | exc C fs e1 s1 =>
    rw [hr] at h
    simp only at h
    intro w1 H1 σ1 dx x1 R1 E1 hC rx
    refine ⟨isSubX C X, (hx.sub hC m).2, fun hs a ha => ?_, fun hs => ?_⟩
    · rw [if_pos hs] at h
      by_cases hl : i < e1.sl.length
      · rw [if_pos hl] at h
        have hsl : i < σ1.length := by rw [← E1.len]; exact hl
        refine ⟨w1, ⟨e1.sl.set i none, e1.me, some (C, fs)⟩, s1, R1, ⟨by simp [E1.len], fun j d hd => ?_, ?_, ?_, fun _ hb => by cases hb⟩, ?_⟩
        · have hd : (e1.sl.set i none)[j]? = some (some d) := hd
          by_cases q : i = j
          · subst q
            rw [List.getElem?_set_self hl] at hd
            cases hd
          · rw [List.getElem?_set_ne q] at hd ⊢
            exact E1.sl j d hd
        · have q := E1.me
          unfold MeOk at q ⊢
          show match p.f with | none => _ | some (x, dx, C) => _
          cases hpf : p.f with
          | none => trivial
          | some z =>
            obtain ⟨x, dx, C⟩ := z
            rw [hpf] at q
            have hi : i ≠ 0 := hf.1.elim (fun z => by rw [z] at hpf; cases hpf) id
            simp only at q ⊢
            rw [List.getElem?_set_ne hi, List.getElem?_set_ne hi]
            exact q
        · show (σ1.set i (some (.ref a)))[i]? = some (some (.ref a)) ∧ _
          exact ⟨List.getElem?_set_self hsl, C, fs, rfl, rfl, hC, rx⟩
        · have key : ∀ {w2 : Wd} {H2 : Hp} {e2 : En} {σ2 : L2.St}, RelE K ⟨some (a, .ref (ga K C), dx), i, p.f, none⟩ w2 H2 e2 σ2 → RelE K p w2 H2 ⟨e2.sl.set i none, e2.me, none⟩ (σ2.set i none) := fun {w2 H2 e2 σ2} E2 => by
            refine ⟨by simp [E2.len], fun j d hd => ?_, ?_, ?_, fun _ hb => by rw [han] at hb; cases hb⟩
            · have hd : (e2.sl.set i none)[j]? = some (some d) := hd
              by_cases q : i = j
              · subst q
                by_cases hl2 : i < e2.sl.length
                · rw [List.getElem?_set_self hl2] at hd
                  cases hd
                · rw [List.getElem?_eq_none (by simp; omega)] at hd
                  cases hd
              · rw [List.getElem?_set_ne q] at hd ⊢
                exact E2.sl j d hd
            · have q := E2.me
              unfold MeOk at q ⊢
              simp only at q
              cases hpf : p.f with
              | none => trivial
              | some z =>
                obtain ⟨x, dx, C⟩ := z
                rw [hpf] at q
                have hi : i ≠ 0 := hf.1.elim (fun z => by rw [z] at hpf; cases hpf) id
                simp only at q ⊢
                rw [List.getElem?_set_ne hi, List.getElem?_set_ne hi]
                exact q
            · unfold ExOk
              rw [hp]
          have hz : (⟨some (a, .ref (ga K C), dx), i, p.f, none⟩ : Px).z = p.z := rfl
          cases hm : ms ⟨e1.sl.set i none, e1.me, some (C, fs)⟩ s1 with
          | nx e2 s2 => rw [hm] at h; exact fun w2 H2 σ2 x2 R2 E2 => h w2 H2 _ (x1.trans x2) R2 (key E2)
          | bk e2 s2 => rw [hm] at h; exact fun w2 H2 σ2 x2 R2 E2 => h w2 H2 _ (x1.trans x2) R2 (key E2)
          | ct e2 s2 => rw [hm] at h; exact fun w2 H2 σ2 x2 R2 E2 => h w2 H2 _ (x1.trans x2) R2 (key E2)
          | rt v s2 => rw [hm] at h; exact fun w2 H2 v2 x2 R2 r2 => h w2 H2 v2 (x1.trans x2) R2 r2
          | exc C' fs' e2 s2 => rw [hm] at h; exact h.elim
          | stuck => rw [hm] at h; exact h.elim
      · rw [if_neg hl] at h; exact h.elim
    · rw [if_neg (by rw [hs]; exact nofun)] at h
      exact h w1 H1 σ1 dx x1 R1 E1 hC rx
theorem i_raise {C : String} (m : inX C = true) : ∀ D σ H, cS K p W (sRaise C) D σ H → W (.ref (ga K C)) none σ H := fun D σ H ⟨w, e, s, R, E, h⟩ => h w H σ none (Ext.refl _ _ _) R E m .no
/-- an exception's own __init__ sets one field -/
def spX (K : PySem.W.Frag) (C f : String) (j n : Nat) : Sp := fun vs H Q _ => vs.length = n ∧ ∃ (a : Addr) (us : List V) (r : V), vs = .ref a :: us ∧ vs[j]? = some r ∧ H a = some (exo a (ga K C) none) ∧ ∀ d, H d = none → d ≠ a → Q .non (upd (upd H d (exd d [(Str.ofString f, r)])) a (exo a (ga K C) (some d)))
theorem i_raiseO {C f : String} {j n : Nat} {dv : List Dx} {us : List V} {ms : MA} (m : inX C = true) (k : RvC K us dv) : ∀ D σ H, cS K p W (sRaiseO C f j n dv ms) D σ H → tMkO (ga K C) (spX K C f j n) us (cA K p W ms) σ H fun cls d H' => W cls d σ H' := fun D σ H ⟨w, e, s, R, E, h⟩ =>
  ⟨w, e, s, R, E, FinS.bind E h fun ds s1 w1 H1 vs x1 R1 r1 h1 => by
    split at h1
    · rename_i hl
      split at h1
      · rename_i d hd
        split at h1
        · rename_i hj
          refine ⟨by rw [r1.len]; exact hl.1, fun a ha => ?_⟩
          have l2 : RvL K w1.r (w1.G H1) (vs ++ us) (ds ++ dv) := r1.app (k _ _)
          obtain ⟨j, rfl⟩ : ∃ i, j = i + 1 := ⟨j - 1, by omega⟩
          rw [List.getElem?_cons_succ] at hd
          obtain ⟨r, hr, rr⟩ := l2.at_ hd
          refine ⟨by rw [List.length_cons, l2.len]; exact hl.2, a, vs ++ us, r, rfl, by rw [List.getElem?_cons_succ]; exact hr, upd_same, fun b hb ne => ?_⟩
          have hb1 : H1 b = none := by rw [upd_ne ne] at hb; exact hb
          refine ⟨rfl, b, _, upd_same, by rw [upd_ne ne, upd_same], hb1, ?_⟩
          have eH : upd (L2.del (upd (upd (upd H1 a (exo a (ga K C) none)) b (exd b [(Str.ofString f, r)])) a (exo a (ga K C) (some b))) a) b (.xd [(Str.ofString f, r)]) = upd H1 b (.xd [(Str.ofString f, r)]) := by
            funext c
            by_cases q : c = b
            · subst q; rw [upd_same, upd_same]
            · rw [upd_ne q, upd_ne q]
              unfold L2.del
              by_cases q2 : c = a
              · rw [if_pos q2, q2, ha]
              · rw [if_neg q2, upd_ne q2, upd_ne q, upd_ne q2]
          rw [eH]
          obtain ⟨R2, e2, g2⟩ := R1.new hb1 (.xd [(Str.ofString f, r)])
          exact h1 w1 _ σ (some b) e2.weak R2 ((E.ext x1).ext e2) m (.own g2 (.cons (rr.ext e2) .nil))
        · exact h1.elim
      · exact h1.elim
    · exact h1.elim⟩
theorem run_X {C f : String} {i j n : Nat} {N : List Str} {vs : List V} {H : Hp} {Q : VK} {E : XK} {bk ct : L2.St → Hp → Prop} (o : OexC K (ga K C)) (na : PySem.W.findIn K (.ref (ga K C)) (Str.ofString f) = some none) (hi : i < n) (h : spX K C f j n vs H Q E) :
    tSeq (tDrop (tVeI K (tCons (tVar 0) (tCons (tVar i) tNil)))) (tOst K (Str.ofString f) (tVar 0) (tVar j)) (Ends.mk (fun _ H' => Q .non H') Q bk ct) (L2.start N vs) H := by
  obtain ⟨hn, a, us, r, rfl, hj, ha, q⟩ := h
  have hs : ∀ (k : Nat) (v : V), (V.ref a :: us)[k]? = some v → (L2.start N (V.ref a :: us))[k]? = some (some v) := fun k v hv => by
    unfold L2.start
    have hk : k < (List.map some (V.ref a :: us)).length := by
      have := (List.getElem?_eq_some_iff.mp hv).1
      simpa using this
    rw [List.getElem?_append_left hk, List.getElem?_map, hv]
    rfl
  obtain ⟨v, hv⟩ : ∃ v, (V.ref a :: us)[i]? = some v := ⟨_, List.getElem?_eq_getElem (by rw [hn]; exact hi)⟩
  refine ⟨_, hs 0 _ rfl, v, hs i v hv, a, _, [v], rfl, by show 1 ≤ 1000; omega, o, ha, ?_⟩
  exact ⟨r, hs j r hj, _, hs 0 _ rfl, a, _, rfl, o, na, .inl ⟨ha, q⟩⟩
/-! ## what a suite holds -/
theorem XDok_of {r : List Addr} {G H : Hp} {d : Option Addr} {fs : Fs} (s : Same G H) (h : Rx K r G d fs) : XDok H d := by
  cases h with
  | no => exact .inl rfl
  | own k l => exact .inr ⟨_, _, rfl, s _ _ k⟩
theorem isX_ok (hx : Xc K) {C : String} (m : inX C = true) {r : List Addr} {G : Hp} {c : V} {d : Dx} (h : Rv K r G c d) {b : Bool} (q : isX C d = some b) : ∃ u, ClsV c u ∧ PySem.W.kitOne K (.ref (ga K C)) u = some b := by
  unfold isX at q
  split at q
  · cases h
    split at q
    · rename_i hX
      cases q
      exact ⟨_, .own _, (hx.sub m hX).1⟩
    · cases q
  · cases h
    split at q
    · rename_i hb
      cases q
      subst hb
      exact ⟨_, .ty _, hx.ve m⟩
    · cases q
  · cases q
theorem isXs_ok (hx : Xc K) {C : String} (m : inX C = true) {r : List Addr} {G : Hp} : ∀ {cs : List V} {ds : List Dx}, RvL K r G cs ds → ∀ {b : Bool}, isXs C ds = some b → ∃ us, Paired ClsV cs us ∧ PySem.W.kitAny K (.ref (ga K C)) us = some b
  | _, _, .nil, b, q => by cases q; exact ⟨[], .nil, rfl⟩
  | _, _, .cons k l, b, q => by
    simp only [isXs] at q
    split at q
    · rename_i a2 b2 q1 q2
      cases q
      obtain ⟨u, h1, h2⟩ := isX_ok hx m k q1
      obtain ⟨us, h3, h4⟩ := isXs_ok hx m l q2
      refine ⟨u :: us, .cons h1 h3, ?_⟩
      simp only [PySem.W.kitAny]
      rw [h2]
      cases a2 with
      | true => rfl
      | false => exact h4
    · cases q
theorem i_isE (hx : Xc K) {a : Addr} {cls : Value} {d : Option Addr} {i : Nat} {f : Option (Addr × Addr × String)} {an : Option (Wd × Hp × V)} {mc : ME} : ∀ σ H Q, cE K ⟨some (a, cls, d), i, f, an⟩ W (eIsE mc) σ H Q → tCB (rIsY K cls d a) (tCons (tVar i) (tCons (cE K ⟨some (a, cls, d), i, f, an⟩ W mc) tNil)) σ H Q := fun σ H Q ⟨w, e, s, R, E, h⟩ => by
  obtain ⟨q1, C, fs, q2, rfl, q4, q5⟩ := E.ex
  refine ⟨_, q1, w, e, s, R, E, Fin.bind h fun c s1 w1 H1 v x1 R1 r1 h1 => ?_⟩
  rw [q2] at h1
  simp only at h1
  split at h1
  · rename_i b hb
    obtain ⟨u, h2, h3⟩ := isX_ok hx q4 r1 hb
    exact ⟨v, u, _, b, rfl, rfl, XDok_of hid_same (q5.mono x1.s x1.pre), hx.exc q4, h2, h3, Fin.now h1 R1 (.bl b)⟩
  · exact h1.elim
theorem i_isET (hx : Xc K) {a : Addr} {cls : Value} {d : Option Addr} {i : Nat} {f : Option (Addr × Addr × String)} {an : Option (Wd × Hp × V)} {mc : MA} : ∀ σ H Q, cE K ⟨some (a, cls, d), i, f, an⟩ W (eIsET mc) σ H Q → tCB (rIsYT K cls d a) (tCons (tVar i) (tCons (tTup (cA K ⟨some (a, cls, d), i, f, an⟩ W mc)) tNil)) σ H Q := fun σ H Q ⟨w, e, s, R, E, h⟩ => by
  obtain ⟨q1, C, fs, q2, rfl, q4, q5⟩ := E.ex
  refine ⟨_, q1, w, e, s, R, E, Fin.bind h fun c s1 w1 H1 v x1 R1 r1 h1 => ?_⟩
  rw [q2] at h1
  simp only at h1
  split at h1
  · rename_i hl
    split at h1
    · rename_i b hb
      refine ⟨by rw [r1.len]; exact most_le hl, fun tp n => ?_⟩
      obtain ⟨us, h2, h3⟩ := isXs_ok hx q4 r1 hb
      obtain ⟨R2, e2, g2⟩ := R1.new n (.tup v)
      exact ⟨tp, v, us, _, b, rfl, upd_same, rfl, XDok_of hid_same (q5.mono (Same.trans x1.s e2.s) (Pre.trans x1.pre e2.pre)), hx.exc q4, h2, h3, h1 w1 _ _ e2 R2 (.bl b)⟩
    · exact h1.elim
  · exact h1.elim
def altX (a : Addr) (cls : Value) (d : Option Addr) (K : PySem.W.Frag) (f : String) (te : TE) : List String → TE
  | [] => fun _ _ _ => False
  | C :: r => tAlt (tXf a cls d (ga K C) (Str.ofString f) te) (altX a cls d K f te r)
theorem altX_in {a : Addr} {cls : Value} {d : Option Addr} {f : String} {te : TE} {σ : L2.St} {H : Hp} {Q : VK} {C : String} : ∀ {l : List String}, C ∈ l → tXf a cls d (ga K C) (Str.ofString f) te σ H Q → altX a cls d K f te l σ H Q
  | D :: l, h, q => by
    rcases List.mem_cons.mp h with rfl | h
    · exact .inl q
    · exact .inr (altX_in h q)
theorem i_fldE {a : Addr} {cls : Value} {d : Option Addr} {i : Nat} {g : Option (Addr × Addr × String)} {an : Option (Wd × Hp × V)} {L : List String} {f : String} : ∀ σ H Q, cE K ⟨some (a, cls, d), i, g, an⟩ W (eFldE L f) σ H Q → altX a cls d K f (tVar i) L σ H Q := fun σ H Q ⟨w, e, s, R, E, h⟩ => by
  obtain ⟨q1, C, fs, q2, rfl, q4, q5⟩ := E.ex
  unfold eFldE at h
  rw [q2] at h
  simp only at h
  split at h
  · rename_i hL
    split at h
    · rename_i u hu
      refine altX_in (List.contains_iff_mem.mp hL) ⟨_, q1, rfl, rfl, ?_⟩
      cases q5 with
      | no => cases hu
      | own k l =>
        obtain ⟨v, h1, h2⟩ := l.look hu
        exact ⟨_, _, v, rfl, (hid_some k).2, h1, Fin.now h R h2⟩
    · exact h.elim
  · exact h.elim
theorem pe_altX {X : Cx} (hx : Xc X.K) {a : Addr} {oe : Obj} {cls : Value} {d : Option Addr} {pn : List (Addr × Obj)} {e : Expr} {te : TE} {pos : Pos} {n : String} (hz : Zc cls d oe) (hf : ∃ vs, oe.data = .fields vs) (he : PE (X.suite a ((a, oe) :: pn)) e te)
    (hb : attributeBase e n X.env (eval e X.env) = eval e X.env) : ∀ L : List String, (L.all fun C => hasXF C n) = true → PE (X.suite a ((a, oe) :: pn)) (.Attribute e n pos) (altX a cls d X.K n te L)
  | [], _ => ⟨fun _ _ _ _ _ _ q => q.elim⟩
  | C :: L, h => by
    simp only [List.all_cons, Bool.and_eq_true] at h
    exact pe_alt (pe_xf (hx.xf (hasXF_in h.1)) (hx.na h.1) hz hf he hb) (pe_altX hx hz hf he hb L h.2)
/-! ## changes -/
theorem i_set (hc : Hc K) {f : String} {mo ma : ME} : ∀ D σ H, cS K p W (sSet f mo ma) D σ H → sFld K (cE K p W mo) (cE K p W ma) (Str.ofString f) D σ H := fun D σ H ⟨w, e, s, R, E, h⟩ =>
  ⟨w, e, s, R, E, FinS.bind E h fun d s1 w1 H1 v x1 R1 r1 h1 => ⟨w1, e, s1, R1, E.ext x1, FinS.bind (E.ext x1) h1 fun d2 s2 w2 H2 v2 x2 R2 r2 h2 => by
    split at h2
    · cases r2 with
      | cell hr =>
        split at h2
        · rename_i hs
          split at h2
          · rename_i hk
            obtain ⟨o, h4, h5⟩ := R2.at_ hr hs
            cases h5 with
            | obj m g l =>
              rename_i dx gs
              obtain ⟨R3, e3⟩ := R2.put hr (Rc.obj (dx := dx) m (putF_all hk.1 g) (l.put (r1.ext x2) f))
              exact ⟨_, _, dx, gs, rfl, h4, hc.cls m, hc.na hk.1, by rw [l.len]; omega, h2 w2 _ σ e3.weak R3 (((E.ext x1).ext x2).ext e3)⟩
          · exact h2.elim
        · exact h2.elim
    · exact h2.elim⟩⟩
theorem i_app {mo ma : ME} : ∀ σ H Q, cE K p W (eApp mo ma) σ H Q → tBM K "list" rAppend (cE K p W mo) (tCons (cE K p W ma) tNil) σ H Q := fun σ H Q ⟨w, e, s, R, E, h⟩ =>
  ⟨w, e, s, R, E, Fin.bind h fun x s1 w1 H1 v x1 R1 r1 h1 => by
    split at h1
    · rename_i n
      split at h1
      · rename_i xs hs
        cases r1 with
        | cell hn =>
          rename_i a
          obtain ⟨o, ho, hc⟩ := R1.at_ hn hs
          cases hc with
          | lst l =>
            refine ⟨.inl ⟨rfl, _, SqL.of ho⟩, w1, e, s1, R1, E.ext x1, Fin.bind h1 fun d2 s2 w2 H2 v2 x2 R2 r2 h2 => ?_⟩
            split at h2
            · rename_i ys hs2
              obtain ⟨o2, ho2, hc2⟩ := R2.at_ (x2.pre _ _ hn) hs2
              cases hc2 with
              | lst l2 =>
                split at h2
                · rename_i hl
                  obtain ⟨R3, e3⟩ := R2.put (x2.pre _ _ hn) (Rc.lst (l2.app (.cons r2 .nil)))
                  exact ⟨a, _, v2, rfl, rfl, ho2, by rw [l2.len]; exact most_lt hl, h2 w2 _ _ e3 R3 .non⟩
                · exact h2.elim
            · exact h2.elim
      · exact h1.elim
    · exact h1.elim⟩
/-! ## texts -/
theorem joinT_eq (z : Tx) : ∀ ys : List Tx, Txt.join (tS z) (ys.map tS) = tS (joinT z ys)
  | [] => rfl
  | y :: ys => by
    have e := join_l (sep := tS z) (y := tS y) (ys := ys.map tS)
    have e2 : (Txt.join (tS z) (tS y :: ys.map tS)).cps.toList = joinT z (y :: ys) := by
      rw [e]
      unfold joinT
      rw [tS_l, tS_l, List.map_map]
      congr 2
    rw [List.map_cons]
    unfold tS at e2 ⊢
    rw [← e2]
theorem okT_join {z : Tx} (hz : okT z) : ∀ {ys : List Tx}, (∀ y ∈ ys, okT y) → okT (joinT z ys)
  | [], _ => fun c hc => by cases hc
  | y :: ys, h => by
    refine okT_app (h y List.mem_cons_self) fun c hc => ?_
    rw [List.mem_flatten] at hc
    obtain ⟨l, hl, hc⟩ := hc
    obtain ⟨q, hq, rfl⟩ := List.mem_map.mp hl
    exact okT_app hz (h q (List.mem_cons_of_mem _ hq)) c hc
theorem i_join {ma mb : ME} : ∀ σ H Q, cE K p W (eJoin ma mb) σ H Q → tM1 (rJoin K) (cE K p W ma) (cE K p W mb) σ H Q := fun σ H Q ⟨w, e, s, R, E, h⟩ =>
  ⟨w, e, s, R, E, Fin.bind h fun x s1 w1 H1 v x1 R1 r1 h1 => by
    split at h1
    · cases r1 with
      | str hz =>
      refine ⟨⟨_, rfl⟩, w1, e, s1, R1, E.ext x1, Fin.bind h1 fun d2 s2 w2 H2 v2 x2 R2 r2 h2 => ?_⟩
      split at h2
      · rename_i l hq
        obtain ⟨ys, h3, h4⟩ := Option.bind_eq_some_iff.mp hq
        obtain ⟨a, vs, rfl, h5, l2⟩ := r2.asQ R2 h3
        obtain ⟨h6, h7⟩ := l2.strsE h4
        subst h6
        split at h2
        · rename_i hl
          refine ⟨_, a, l.map tS, rfl, rfl, h5, ?_, ?_⟩
          · rw [List.map_map, List.length_map, tS_len]
            have : (l.map ((fun x => x.length) ∘ tS)) = l.map (·.length) := List.map_congr_left fun q _ => tS_len q
            rw [this]
            exact Nat.le_trans hl (by decide)
          · rw [joinT_eq]; exact Fin.now h2 R2 (.str (okT_join hz h7))
        · exact h2.elim
      · exact h2.elim
    · exact h1.elim⟩
theorem i_lenSet {ma : ME} : ∀ σ H Q, cE K p W (eCall lenSetD (aCons ma aNil)) σ H Q → tLenSetG K (cE K p W ma) σ H Q := fun σ H Q ⟨w, e, s, R, E, h⟩ =>
  ⟨w, e, s, R, E, Fin.bind (β' := Dx) (rel' := Rv K) (k := fun x s1 => lenSetD [x] s1) (by
    have e2 : eCall lenSetD (aCons ma aNil) e s = (ma e s).bind fun x s1 => lenSetD [x] s1 := by
      unfold eCall aCons aNil
      cases ma e s <;> rfl
    rw [e2] at h; exact h) fun x s1 w1 H1 v x1 R1 r1 h1 => by
    unfold lenSetD at h1
    simp only at h1
    cases hq : (Pm.asL s1 x).bind Pm.dStrs with
    | none => rw [hq] at h1; exact h1.elim
    | some l =>
      rw [hq] at h1
      simp only at h1
      obtain ⟨ys, h3, h4⟩ := Option.bind_eq_some_iff.mp hq
      obtain ⟨a, vs, rfl, h5, l2⟩ := r1.asL R1 h3
      obtain ⟨h6, h7⟩ := l2.strsE h4
      subst h6
      split at h1
      · rename_i hl
        refine ⟨a, l.map tS, rfl, h5, by rw [List.length_map]; exact hl, ?_⟩
        rw [cnt_dcnt, List.length_map]
        exact Fin.now h1 R1 (.int _)
      · exact h1.elim⟩
/-! ## defs -/
abbrev p0 : Px := ⟨none, 0, none, none⟩
theorem env_start {w : Wd} {H : Hp} {vs : List V} {ds : List Dx} {N : List Str} {n : Nat} (hN : N.length = n) (l : RvL K w.r (w.G H) vs ds) : RelE K p0 w H ⟨env0 n ds, [], none⟩ (L2.start N vs) := by
  refine ⟨?_, fun i d hd => ?_, trivial, rfl, fun _ h => by cases h⟩
  · show (ds.map some ++ List.replicate (n - ds.length) none).length = (vs.map some ++ List.replicate (N.length - vs.length) none).length
    simp [l.len, hN]
  · have hd : (ds.map some ++ List.replicate (n - ds.length) none)[i]? = some (some d) := hd
    show ∃ v, (vs.map some ++ List.replicate (N.length - vs.length) none)[i]? = some (some v) ∧ _
    by_cases hi : i < ds.length
    · rw [List.getElem?_append_left (by simpa using hi), List.getElem?_map] at hd
      obtain ⟨d', h1, h2⟩ := Option.map_eq_some_iff.mp hd
      cases h2
      obtain ⟨v, hv, rv⟩ := l.at_ h1
      refine ⟨v, ?_, rv⟩
      rw [List.getElem?_append_left (by rw [List.length_map, l.len]; exact hi), List.getElem?_map, hv]
      rfl
    · rw [List.getElem?_append_right (by simpa using Nat.le_of_not_lt hi), List.getElem?_replicate] at hd
      split at hd <;> cases hd
abbrev wE (E : XK) : WX := fun cls d _ H => E cls d H
/-- a def's body keeps what is asked -/
theorem run_M {k n : Nat} {b : MS} {vs : List V} {H : Hp} {Q : VK} {E : XK} {N : List Str} {bk ct : L2.St → Hp → Prop} (hN : N.length = n) (h : spM K (mkF k n b) vs H Q E) : cS K p0 (wE E) b (Ends.mk (fun _ H' => Q .non H') Q bk ct) (L2.start N vs) H := by
  obtain ⟨w, ds, s, R, l, h⟩ := h
  refine ⟨w, ⟨env0 n ds, [], none⟩, s, R, env_start hN l, ?_⟩
  unfold mkF at h
  split at h
  · cases hr : b ⟨env0 n ds, [], none⟩ s with
    | nx e1 s1 => rw [hr] at h; exact fun w' H' σ' x R' E' => h w' H' .non x R' .non
    | rt v s1 => rw [hr] at h; exact fun w' H' v x R' r' => h w' H' v x R' r'
    | exc C fs e1 s1 => rw [hr] at h; exact fun w' H' σ' dx x R' E' hC rx => h w' H' dx x R' hC rx
    | bk e1 s1 => rw [hr] at h; exact h.elim
    | ct e1 s1 => rw [hr] at h; exact h.elim
    | stuck => rw [hr] at h; exact h.elim
  · exact h.elim
theorem len_M {k n : Nat} {b : MS} {vs : List V} {H : Hp} {Q : VK} {E : XK} (h : spM K (mkF k n b) vs H Q E) : vs.length = k := by
  obtain ⟨w, ds, s, R, l, h⟩ := h
  unfold mkF at h
  split at h
  · rename_i hk; rw [l.len]; exact hk
  · exact h.elim
theorem len_I {L : List String} {k n : Nat} {b : MS} {vs : List V} {H : Hp} {Q : VK} {E : XK} (h : spI K L (mkI k n b) vs H Q E) : vs.length = k := by
  obtain ⟨w, a, dx, C, us, ds, s, rfl, R, _, _, _, _, l, h⟩ := h
  unfold mkI at h
  split at h
  · rename_i hk; rw [List.length_cons, l.len]; exact hk
  · exact h.elim
theorem len_X {C f : String} {j n : Nat} {vs : List V} {H : Hp} {Q : VK} {E : XK} (h : spX K C f j n vs H Q E) : vs.length = n := h.1
theorem run_I {L : List String} {k n : Nat} {b : MS} {vs : List V} {H : Hp} {Q : VK} {E : XK} {N : List Str} {bk ct : L2.St → Hp → Prop} (hN : N.length = n) (hn : 0 < n) (h : spI K L (mkI k n b) vs H Q E) :
    ∃ (x dx : Addr) (C : String), (L.all fun f => hasF C f) = true ∧ cS K ⟨none, 0, some (x, dx, C), none⟩ (wE E) b (Ends.mk (fun _ H' => Q .non H') Q bk ct) (L2.start N vs) H := by
  obtain ⟨w, a, dx, C, us, ds, s, rfl, R, h1, h2, h3, h4, l, h⟩ := h
  refine ⟨a, dx, C, h4, w, ⟨none :: env0 (n - 1) ds, [], none⟩, s, R, ?_, ?_⟩
  · obtain ⟨m, rfl⟩ : ∃ m, n = m + 1 := ⟨n - 1, by omega⟩
    cases N with
    | nil => cases hN
    | cons x N =>
      have hN : N.length = m := by simpa using hN
      have es := env_start (K := K) (w := w) (H := H) hN l
      have e1 : L2.start (x :: N) (V.ref a :: us) = some (.ref a) :: L2.start N us := by
        unfold L2.start
        rw [List.map_cons, List.cons_append]
        simp
      rw [e1]
      refine ⟨by simpa using es.len, fun i d hd => ?_, ⟨rfl, rfl, h1, h3, rfl, [], h2, .nil⟩, rfl, fun _ h => by cases h⟩
      cases i with
      | zero => cases hd
      | succ i => exact es.sl i d hd
  · unfold mkI at h
    split at h
    · cases hr : b ⟨none :: env0 (n - 1) ds, [], none⟩ s with
      | nx e1 s1 =>
        rw [hr] at h
        intro w' H' σ' x R' E'
        obtain ⟨m1, m0, m2, m3, m4, gs, m5, m6⟩ := E'.me
        exact h w' H' gs x R' m5 m4 m6
      | rt v s1 => rw [hr] at h; exact h.elim
      | exc C fs e1 s1 => rw [hr] at h; exact fun w' H' σ' dx x R' E' hC rx => h w' H' dx x R' hC rx
      | bk e1 s1 => rw [hr] at h; exact h.elim
      | ct e1 s1 => rw [hr] at h; exact h.elim
      | stuck => rw [hr] at h; exact h.elim
    · exact h.elim
end
/-! ## set a name, raise, constants -/
section
variable {K : PySem.W.Frag} {p : Px} {W : WX}
theorem i_asgN {i : Nat} {ma : ME} {t : TE} (hf : p.free i) (im : ∀ σ H Q, cE K p W ma σ H Q → t σ H Q) : ∀ D σ H, cS K p W (sAsg ma (hNm i)) D σ H → tAsg t (gName i) D σ H := fun D σ H ⟨w, e, s, R, E, h⟩ =>
  im σ H _ ⟨w, e, s, R, E, FinS.bind E h fun d s1 w1 H1 v x1 R1 r1 h1 => h1 w1 H1 _ (Ext.refl _ _ _) R1 ((E.ext x1).set r1 hf)⟩
theorem i_callD0 {f : MF} {us : List V} {dv : List Dx} (k : RvC K us dv) : ∀ σ H Q, cE K p W (eCallD f dv aNil) σ H Q → tCallSD (spM K f) us (WE W) tNil σ H Q := fun σ H Q h => i_nil σ H _ (i_callD k σ H Q h)
theorem i_makeD0 {C : String} {L : List String} {f : MI} {us : List V} {dv : List Dx} (k : RvC K us dv) (m : inT C = true) (hl : (L.all fun f => hasF C f) = true) : ∀ σ H Q, cE K p W (eMakeD C f dv aNil) σ H Q → tMakeSD (ga K C) (spI K L f) us (WE W) tNil σ H Q := fun σ H Q h => i_nil σ H _ (i_makeD k m hl σ H Q h)
theorem rvc0 : RvC K [] [] := fun _ _ => .nil
theorem rvc1 {v : V} {d : Dx} {us : List V} {ds : List Dx} (h : ∀ r G, Rv K r G v d) (k : RvC K us ds) : RvC K (v :: us) (d :: ds) := fun r G => .cons (h r G) (k r G)
theorem rv_non : ∀ r G, Rv K r G .non .non := fun _ _ => .non
theorem rv_bl {b : Bool} : ∀ r G, Rv K r G (.bl b) (.bl b) := fun _ _ => .bl b
theorem rv_int {i : Int} : ∀ r G, Rv K r G (.int i) (.int i) := fun _ _ => .int i
theorem rv_str {z : String} : ∀ r G, Rv K r G (.str (Str.ofString z)) (.str (tx z)) := fun _ _ => by rw [tS_tx]; exact .str (okT_tx z)
theorem allL {C : String} {L : List String} (h : (L.all fun f => hasF C f) = true) (i : Nat) {f : String} (e : L[i]? = some f) : hasF C f = true := List.all_eq_true.mp h f (List.mem_of_getElem? e)
theorem qs_raise {X : Cx} {C : String} {e : Expr} {pos : Pos} (m : inX C = true) (hc : X.calm = true) (tk : Takes X W) (he : PMk X e (fun _ H Q => Q (.ref (ga X.K C)) none H)) : PS X (.Raise (some e) none pos) (cS X.K p W (sRaise C)) := imS (i_raise m) (ps_raise hc tk he)
theorem qs_raiseO {X : Cx} {C f : String} {j n : Nat} {dv : List Dx} {us : List V} {ms : MA} {e : Expr} {pos : Pos} (m : inX C = true) (k : RvC X.K us dv) (hc : X.calm = true) (tk : Takes X W) (he : PMk X e (tMkO (ga X.K C) (spX X.K C f j n) us (cA X.K p W ms))) : PS X (.Raise (some e) none pos) (cS X.K p W (sRaiseO C f j n dv ms)) := imS (i_raiseO m k) (ps_raise hc tk he)
end
/-! ## calls -/
section
variable {X : Cx}
theorem qe_call0 {CX : CXT} {k : Nat} {f : Addr} {fd : FuncData} {ps : List Str} {sp : Sp} {E : L2.St → XK} {x : Str} {p pos : Pos} (F : FnOk X.prog X.w X.K X.mg X.base CX k f fd ps sp) (room : Room k X.A) (gl : Gl X x) (mg : X.mg x = some (.ref f)) (kp : PySem.W.keepIn X.K (.ref f) = true)
    {ds : List Value} {us : List V} (bnd : Binds X.K fd ps ds) (hd : Vals us ds) (out : ∀ σ, PassesAt CX X σ (E σ)) (hdb : (x == ("__debug__" : Str)) = false := by decide) : PE X (.Call (.Name x p) [] [] pos) (tCallSD sp us E tNil) := by
  constructor
  intro pins s σ H Q I q
  refine wpAny_Call_Name_kw (ld_glob I gl mg ?_ hdb)
  exact PySem.W.callWith_K0 I.kIn kp (run_fnSD (us := []) F room bnd hd (out σ) I .nil q)
theorem run_makeD {C : Addr} {pins : List (Addr × Obj)} {σ : L2.St} {H : Hp} {s : Shared} {Q : VK} {CX : CXT} {k : Nat} {fi : Addr} {fd : FuncData} {ps : List Str} {sp : Sp} {E : XK} {args : List Value} {vs : List V} {ds : List Value} {us : List V} (M : Mk X.K C fi) (F : FnOk X.prog X.w X.K X.mg X.base CX k fi fd ps sp)
    (room : Room (k + 1) X.A) (bnd : Binds X.K fd ps ds) (hd : Vals us ds) (out : PassesAt CX X σ E) (I : Inv X pins σ H s) (rel : Vals vs args)
    (q : ∀ a b, H a = none → (H b = none ∧ b ≠ a) → sp (.ref a :: (vs ++ us)) (upd (upd H b (.own a)) a (.ins C b [])) (fun v H2 => v = .non ∧ Q (.ref a) H2) E) : wpAny (model X.prog X.w) X.A (call (.ref C) args) (EP X pins σ Q) X.xe s := by
  have body := q _ _ (I.hok.fresh (a := s.heap.objs.size + 1) (Nat.le_succ _)) ⟨I.hok.fresh (a := s.heap.objs.size) (Nat.le_refl _), Nat.ne_of_lt (Nat.lt_succ_self _)⟩
  have J := Inv.made (C := C) I
  have rel2 : Vals (V.ref (s.heap.objs.size + 1) :: (vs ++ us)) (Value.ref (s.heap.objs.size + 1) :: (args ++ ds)) := .cons rfl (rel.append hd)
  have ln : (Value.ref (s.heap.objs.size + 1) :: (args ++ ds)).length = ps.length := by
    rw [← rel2.length]
    exact F.len _ _ _ _ body
  have bt := bnd _ (Value.ref (s.heap.objs.size + 1) :: args) J.kIn ln
  have go := F.run _ X.stack _ _ _ _ _ _ E (room.make C args []) (J.env0.make C args []) bt rel2 body
  refine wpAny_call (make_map (f := fi) I.kIn M.makes M.init (beq_iff_eq.mp M.fn) (codeAny_mono go ?_))
  intro r st post
  match r, post with
  | .error e, post => exact out pins _ _ e st J post
  | .ok (.ret u), post =>
    obtain ⟨v, H2, I2, ru, ev, q2⟩ := J.after post
    subst ev
    exact And.intro ru (show EP X pins σ Q (Value.ref (s.heap.objs.size + 1)) _ from ⟨V.ref (s.heap.objs.size + 1), H2, I2, rfl, q2⟩)
  | .ok .next, post => exact post.elim
  | .ok .brk, post => exact post.elim
  | .ok .cont, post => exact post.elim
theorem qe_makeD {C : Addr} {x : Str} {p pos : Pos} {CX : CXT} {k : Nat} {fi : Addr} {fd : FuncData} {ps : List Str} {sp : Sp} {E : L2.St → XK} {e : Expr} {es : List Expr} {t : TA} {ds : List Value} {us : List V} (M : Mk X.K C fi) (F : FnOk X.prog X.w X.K X.mg X.base CX k fi fd ps sp)
    (room : Room (k + 1) X.A) (gl : Gl X x) (mg : X.mg x = some (.ref C)) (bnd : Binds X.K fd ps ds) (hd : Vals us ds) (out : ∀ σ, PassesAt CX X σ (E σ)) (ha : PA X (e :: es) t) (hdb : (x == ("__debug__" : Str)) = false := by decide)
    (st : starEach (e :: es) X.env = (false, eval e X.env) :: starEach es X.env := by rfl) (pl : (backTo pos (starEach es X.env)).any (·.1) = false := by rfl) : PE X (.Call (.Name x p) (e :: es) [] pos) (tMakeSD C sp us E t) := by
  constructor
  intro pins s σ H Q I q
  refine wpAny_Call_Name_kw (ld_glob I gl mg ?_ hdb)
  have args := ha.run pos pins s σ H _ I q
  refine PySem.W.callWith_K (h₀ := X.base) I.ok.mod.kin M.kp (thn args ?_) st pl
  rintro vs s1 ⟨ws, H1, I1, r, q2⟩
  exact ⟨I1.kIn, run_makeD M F room bnd hd (out σ) I1 r q2⟩
theorem qe_makeD0 {C : Addr} {x : Str} {p pos : Pos} {CX : CXT} {k : Nat} {fi : Addr} {fd : FuncData} {ps : List Str} {sp : Sp} {E : L2.St → XK} {ds : List Value} {us : List V} (M : Mk X.K C fi) (F : FnOk X.prog X.w X.K X.mg X.base CX k fi fd ps sp)
    (room : Room (k + 1) X.A) (gl : Gl X x) (mg : X.mg x = some (.ref C)) (bnd : Binds X.K fd ps ds) (hd : Vals us ds) (out : ∀ σ, PassesAt CX X σ (E σ)) (hdb : (x == ("__debug__" : Str)) = false := by decide) : PE X (.Call (.Name x p) [] [] pos) (tMakeSD C sp us E tNil) := by
  constructor
  intro pins s σ H Q I q
  refine wpAny_Call_Name_kw (ld_glob I gl mg ?_ hdb)
  exact PySem.W.callWith_K0 I.kIn M.kp (run_makeD (args := []) M F room bnd hd (out σ) I .nil q)
theorem qe_meth {C : Addr} {m : Str} {o : Expr} {ta : TE} {apos pos : Pos} {CX : CXT} {k : Nat} {f : Addr} {fd : FuncData} {ps : List Str} {sp : Sp} {E : L2.St → XK} {e : Expr} {es : List Expr} {t : TA} {pl : Sem Bool} (he : PE X o ta) (c : Cls X.K C) (mt : Meth X.K C m f) (F : FnOk X.prog X.w X.K X.mg X.base CX k f fd ps sp) (room : Room k X.A)
    (bnd : Binds X.K fd ps []) (out : ∀ σ, PassesAt CX X σ (E σ)) (ha : PA X (e :: es) t) (st : starEach (e :: es) X.env = (false, eval e X.env) :: starEach es X.env := by rfl) (hpl : (backTo pos (starEach es X.env)).any (·.1) = false := by rfl)
    (ht : eval (.Call (.Attribute o m apos) (e :: es) [] pos) X.env = (do
      let v ← eval o X.env
      standAt apos.atName
      let (g, first) ← holding [v] (getMethod v m pl)
      callWith pos g first (backTo pos (starEach (e :: es) X.env)) (backToKw pos (keywordEach [] X.env))) := by rfl) : PE X (.Call (.Attribute o m apos) (e :: es) [] pos) (tMethS C m sp E ta t) := by
  constructor
  intro pins s σ H Q I q
  refine PySem.W.methodCall_KW (pl := pl) (thn (he.run pins s σ H _ I q) fun u s1 ⟨x, H1, I1, rx, a, dx, fs, ex, ea, l, q1⟩ => ?_) ht
  subst ex
  obtain rfl : u = Value.ref a := rx
  refine getmeth_ok I1 ea c mt l ?_
  refine PySem.W.callWith_K (first := [.ref a]) (h₀ := X.base) I.ok.mod.kin mt.kp (thn (ha.run pos pins s1 σ H1 _ I1 q1) fun us s2 ⟨vs, H2, I2, r, q2⟩ => ⟨I2.kIn, ?_⟩) st hpl
  exact run_fnSD (us := .ref a :: us) (vs := .ref a :: vs) F room bnd .nil (out σ) I2 (.cons rfl r) (by rw [List.append_nil]; exact q2)
theorem qe_meth0 {C : Addr} {m : Str} {o : Expr} {ta : TE} {apos pos : Pos} {CX : CXT} {k : Nat} {f : Addr} {fd : FuncData} {ps : List Str} {sp : Sp} {E : L2.St → XK} {pl : Sem Bool} (he : PE X o ta) (c : Cls X.K C) (mt : Meth X.K C m f) (F : FnOk X.prog X.w X.K X.mg X.base CX k f fd ps sp) (room : Room k X.A)
    (bnd : Binds X.K fd ps []) (out : ∀ σ, PassesAt CX X σ (E σ))
    (ht : eval (.Call (.Attribute o m apos) [] [] pos) X.env = (do
      let v ← eval o X.env
      standAt apos.atName
      let (g, first) ← holding [v] (getMethod v m pl)
      callWith pos g first (backTo pos (starEach [] X.env)) (backToKw pos (keywordEach [] X.env))) := by rfl) : PE X (.Call (.Attribute o m apos) [] [] pos) (tMethS C m sp E ta tNil) := by
  constructor
  intro pins s σ H Q I q
  refine PySem.W.methodCall_KW (pl := pl) (thn (he.run pins s σ H _ I q) fun u s1 ⟨x, H1, I1, rx, a, dx, fs, ex, ea, l, q1⟩ => ?_) ht
  subst ex
  obtain rfl : u = Value.ref a := rx
  refine getmeth_ok I1 ea c mt l ?_
  exact PySem.W.callWith_K0 (first := [.ref a]) I1.kIn mt.kp (run_fnSD (us := [.ref a]) (vs := [.ref a]) F room bnd .nil (out σ) I1 (.cons rfl .nil) (by exact q1))
/-- alternatives -/
theorem qe_altN {e : Expr} {m : String} {E : L2.St → XK} {ta : TE} {t : TA} : PE X e (altM X.K m E ta t []) := ⟨fun _ _ _ _ _ _ q => q.elim⟩
theorem qe_altC {e : Expr} {m C : String} {f : MF} {r : List (String × MF)} {E : L2.St → XK} {ta : TE} {t : TA} (h : PE X e (tMethS (ga X.K C) (Str.ofString m) (spM X.K f) E ta t)) (k : PE X e (altM X.K m E ta t r)) : PE X e (altM X.K m E ta t ((C, f) :: r)) := pe_alt h k
end
end Ps
namespace Ps
open PySem PySem.Spec PyProof.Rows L2 Vs He Pm
/-! ## what calls itself: no turn left -/
theorem vac_ok {P : Program} {w : World} {K : PySem.W.Frag} {mg : Str → Option Value} {base : Heap} {CX : CXT} {k : Nat} {f : Addr} {fd : FuncData} {ps : List Str} : FnOk P w K mg base CX k f fd ps (spM K (fun _ _ => .stuck)) :=
  ⟨fun vs H Q E h => by obtain ⟨w, ds, s, R, l, h⟩ := h; exact h.elim, fun A outer s H args us vs Q E hr he hb hv h => by obtain ⟨w, ds, s, R, l, h⟩ := h; exact h.elim⟩
end Ps

/-! # soundness: more constructs -/
namespace Ps
open PySem PySem.Spec PyProof.Rows L2 Vs He Pm
section
variable {X : Cx} {CX : CXT} {k n : Nat} {f C : Addr} {fd : FuncData} {ps ks : List Str} {sp : Sp} {E : L2.St → XK} {x : Str} {p pos : Pos} {e : Expr} {es : List Expr} {kws : List Keyword} {t tk : TA} {g : List Value → List Value → List Value} {gV : List V → List V → List V}
/-! ## C(.., k = v, ..) -/
def tMkN (C : Addr) (n m : Nat) (sp : Sp) (gV : List V → List V → List V) (E : L2.St → XK) (t tk : TA) : TE := fun σ H Q => t σ H fun vs H1 => tk σ H1 fun zs H2 => vs.length = n ∧ zs.length = m ∧ ∀ x dx, H2 x = none → H2 dx = none → dx ≠ x →
  sp (gV (.ref x :: vs) zs) (upd (upd H2 dx (.own x)) x (.ins C dx [])) (fun v H3 => v = .non ∧ Q (.ref x) H3) (E σ)
theorem run_mkN {pins : List (Addr × Obj)} {σ : L2.St} {H : Hp} {s : Shared} {Q : VK} {E : XK} {us ws : List Value} {vs zs : List V} (M : Mk X.K C f) (F : FnOk X.prog X.w X.K X.mg X.base CX k f fd ps sp) (room : Room (k + 1) X.A) (kb : KBn X.K fd ps (n + 1) ks g gV) (out : PassesAt CX X σ E)
    (I : Inv X pins σ H s) (r : Vals vs us) (rz : Vals zs ws) (l1 : vs.length = n) (l2 : zs.length = ks.length)
    (q : ∀ a b, H a = none → H b = none → b ≠ a → sp (gV (.ref a :: vs) zs) (upd (upd H b (.own a)) a (.ins C b [])) (fun v H2 => v = .non ∧ Q (.ref a) H2) E) :
    wpAny (model X.prog X.w) X.A (call (.ref C) us (ks.zip ws)) (EP X pins σ Q) X.xe s := by
  have body := q (s.heap.objs.size + 1) s.heap.objs.size (I.hok.fresh (Nat.le_succ _)) (I.hok.fresh (Nat.le_refl _)) (Nat.ne_of_lt (Nat.lt_succ_self _))
  have J := Inv.made (C := C) I
  have ra : Vals (V.ref (s.heap.objs.size + 1) :: vs) (Value.ref (s.heap.objs.size + 1) :: us) := .cons rfl r
  have la : (Value.ref (s.heap.objs.size + 1) :: us).length = n + 1 := congrArg (· + 1) (r.length.symm.trans l1)
  have go := F.run _ X.stack _ _ ⟨Value.ref (s.heap.objs.size + 1) :: us, ks.zip ws⟩ (g (Value.ref (s.heap.objs.size + 1) :: us) ws) _ _ E (room.make C us (ks.zip ws)) (J.env0.make C us (ks.zip ws)) (kb.to _ _ ws J.kIn la (rz.length.symm.trans l2)) (kb.rel ra rz) body
  refine wpAny_call (make_map (f := f) I.kIn M.makes M.init (beq_iff_eq.mp M.fn) (codeAny_mono go ?_))
  intro r st post
  match r, post with
  | .error e, post => exact out pins _ _ e st J post
  | .ok (.ret u), post =>
    obtain ⟨v, H2, I2, ru, ev, q2⟩ := J.after post
    subst ev
    exact And.intro ru (show EP X pins σ Q (Value.ref (s.heap.objs.size + 1)) _ from ⟨V.ref (s.heap.objs.size + 1), H2, I2, rfl, q2⟩)
  | .ok .next, post => exact post.elim
  | .ok .brk, post => exact post.elim
  | .ok .cont, post => exact post.elim
theorem pe_mkN0 (M : Mk X.K C f) (F : FnOk X.prog X.w X.K X.mg X.base CX k f fd ps sp) (room : Room (k + 1) X.A) (gl : Gl X x) (mg : X.mg x = some (.ref C)) (kb : KBn X.K fd ps 1 ks g gV) (out : ∀ σ, PassesAt CX X σ (E σ)) (hkw : PK X kws tk)
    (hall : (backToKw pos (keywordEach kws X.env)).all (·.1.isSome) = true := by rfl) (hks : (backToKw pos (keywordEach kws X.env)).filterMap (·.1) = ks := by rfl) (hdb : (x == ("__debug__" : Str)) = false := by decide)
    (pl : ((backTo pos (starEach [] X.env)).any (·.1) || (backToKw pos (keywordEach kws X.env)).any (·.1.isNone)) = false := by rfl) :
    PE X (.Call (.Name x p) [] kws pos) (tMkN C 0 ks.length sp gV E tNil tk) := by
  constructor
  intro pins s σ H Q I q
  refine wpAny_Call_Name_kw (ld_glob I gl mg ?_ hdb)
  refine PySem.W.callWith_KW0 (h₀ := X.base) I.ok.mod.kin M.kp hall ?_ pl
  refine thn (hkw.run pos pins s σ H _ I q) fun ws s2 ⟨zs, H2, I2, rz, l1, l2, q2⟩ => ⟨I2.kIn, ?_⟩
  rw [hks]
  exact run_mkN (n := 0) (vs := []) M F room kb (out σ) I2 .nil rz l1 l2 q2
theorem pe_mkN (M : Mk X.K C f) (F : FnOk X.prog X.w X.K X.mg X.base CX k f fd ps sp) (room : Room (k + 1) X.A) (gl : Gl X x) (mg : X.mg x = some (.ref C)) (kb : KBn X.K fd ps (n + 1) ks g gV) (out : ∀ σ, PassesAt CX X σ (E σ)) (ha : PA X (e :: es) t) (hkw : PK X kws tk)
    (hall : (backToKw pos (keywordEach kws X.env)).all (·.1.isSome) = true := by rfl) (hks : (backToKw pos (keywordEach kws X.env)).filterMap (·.1) = ks := by rfl) (hdb : (x == ("__debug__" : Str)) = false := by decide)
    (st : starEach (e :: es) X.env = (false, eval e X.env) :: starEach es X.env := by rfl) (pl : ((backTo pos (starEach (e :: es) X.env)).any (·.1) || (backToKw pos (keywordEach kws X.env)).any (·.1.isNone)) = false := by rfl) :
    PE X (.Call (.Name x p) (e :: es) kws pos) (tMkN C n ks.length sp gV E t tk) := by
  constructor
  intro pins s σ H Q I q
  refine wpAny_Call_Name_kw (ld_glob I gl mg ?_ hdb)
  refine PySem.W.callWith_KW (h₀ := X.base) I.ok.mod.kin M.kp hall (thn (ha.run pos pins s σ H _ I q) fun us s1 ⟨vs, H1, I1, r, q1⟩ => ?_) pl st
  refine thn (hkw.run pos pins s1 σ H1 _ I1 q1) fun ws s2 ⟨zs, H2, I2, rz, l1, l2, q2⟩ => ⟨I2.kIn, ?_⟩
  rw [hks]
  exact run_mkN M F room kb (out σ) I2 r rz l1 l2 q2
end
section
variable {K : PySem.W.Frag} {p : Px} {W : WX}
theorem RvL.reverse {r : List Addr} {G : Hp} : ∀ {vs : List V} {ds : List Dx}, RvL K r G vs ds → RvL K r G vs.reverse ds.reverse
  | _, _, .nil => .nil
  | _, _, .cons h l => by
    rw [List.reverse_cons, List.reverse_cons]
    exact l.reverse.app (.cons h .nil)
theorem i_mkN {C : String} {L : List String} {f : MI} {n m : Nat} {gd : List Dx → List Dx → List Dx} {gV : List V → List V → List V} {ma mk : MA} (mc : inT C = true) (hl : (L.all fun f => hasF C f) = true)
    (hg : ∀ (r : List Addr) (G : Hp) (x : V) (vs zs : List V) (ds es : List Dx), RvL K r G vs ds → RvL K r G zs es → ∃ us, gV (x :: vs) zs = x :: us ∧ RvL K r G us (gd ds es)) :
    ∀ σ H Q, cE K p W (eMakeK C f n m gd ma mk) σ H Q → tMkN (ga K C) n m (spI K L f) gV (WE W) (cA K p W ma) (cA K p W mk) σ H Q := fun σ H Q ⟨w, e, s, R, E, h⟩ =>
  ⟨w, e, s, R, E, Fin.bind h fun d s1 w1 H1 v x1 R1 r1 h1 => ⟨w1, e, s1, R1, E.ext x1, Fin.bind h1 fun d2 s2 w2 H2 v2 x2 R2 r2 h2 => by
    split at h2
    · rename_i hn
      refine ⟨by rw [r1.len]; exact hn.1, by rw [r2.len]; exact hn.2, fun a b ha hb ne => ?_⟩
      obtain ⟨us, e1, l⟩ := hg _ _ (.ref a) _ _ _ _ (r1.ext x2) r2
      rw [e1]
      exact make_tree mc hl R2 l h2 a b ha ⟨hb, ne⟩
    · exact h2.elim⟩⟩
theorem i_mkN0 {C : String} {L : List String} {f : MI} {m : Nat} {gd : List Dx → List Dx → List Dx} {gV : List V → List V → List V} {mk : MA} (mc : inT C = true) (hl : (L.all fun f => hasF C f) = true)
    (hg : ∀ (r : List Addr) (G : Hp) (x : V) (vs zs : List V) (ds es : List Dx), RvL K r G vs ds → RvL K r G zs es → ∃ us, gV (x :: vs) zs = x :: us ∧ RvL K r G us (gd ds es)) :
    ∀ σ H Q, cE K p W (eMakeK C f 0 m gd aNil mk) σ H Q → tMkN (ga K C) 0 m (spI K L f) gV (WE W) tNil (cA K p W mk) σ H Q := fun σ H Q h => i_nil σ H _ (i_mkN mc hl hg σ H Q h)
theorem i_rev {ma : ME} : ∀ σ H Q, cE K p W (eUn revD ma) σ H Q → tRevL K (cE K p W ma) σ H Q := fun σ H Q ⟨w, e, s, R, E, h⟩ =>
  ⟨w, e, s, R, E, Fin.bind h fun x s1 w1 H1 v x1 R1 r1 h1 => by
    unfold revD at h1
    split at h1
    · rename_i xs hq
      obtain ⟨a, vs, rfl, h5, l2⟩ := r1.asL R1 hq
      exact ⟨a, vs, rfl, h5, fun p n => Fin.tree h1 R1 l2.reverse n⟩
    · exact h1.elim⟩
end
end Ps
namespace Ps
open PySem PySem.Spec PyProof.Rows L2 Vs He Pm
theorem imK {X : Cx} {es : List Keyword} {t u : TA} (i : ∀ σ H Q, u σ H Q → t σ H Q) (h : PK X es t) : PK X es u := ⟨fun pos pins s σ H Q I q => h.run pos pins s σ H Q I (i σ H Q q)⟩
end Ps
namespace Ps
open PySem PySem.Spec PyProof.Rows L2 Vs He Pm
theorem allF {l : List (String × MF)} {Ns : List String} {m : String} (e : l.map (·.1) = Ns) (h : (Ns.all fun C => !hasF C m) = true) : (l.all fun q => !hasF q.1 m) = true := by
  subst e
  rw [List.all_map] at h
  exact h
end Ps
namespace Ps
open PySem PySem.Spec PyProof.Rows L2 Vs He Pm
theorem om_notB {X : Cx} : OpM X (compareOp .IsNot) notBD := by
  refine ⟨_, op_notBl, ?_⟩
  intro w H s x y d e Q E R hx hy h
  unfold notBD at h
  split at h
  · cases hx; cases hy
    refine ⟨_, _, rfl, rfl, ?_⟩
    rw [← Bool.beq_eq_decide_eq]
    exact Fin.now h R (.bl _)
  · exact h.elim
end Ps

/-! # soundness: more of lists, pairs that are walked -/
namespace Ps
open PySem PySem.Spec PyProof.Rows L2 Vs He Pm
section
variable {K : PySem.W.Frag} {p : Px} {W : WX}
theorem i_clear {mo : ME} : ∀ σ H Q, cE K p W (eClear mo) σ H Q → tBM0 K "list" rClear (cE K p W mo) σ H Q := fun σ H Q ⟨w, e, s, R, E, h⟩ =>
  ⟨w, e, s, R, E, Fin.bind h fun x s1 w1 H1 v x1 R1 r1 h1 => by
    split at h1
    · split at h1
      · rename_i xs hs
        cases r1 with
        | cell hn =>
          rename_i a
          obtain ⟨o, ho, hc⟩ := R1.at_ hn hs
          cases hc with
          | lst l =>
            obtain ⟨R3, e3⟩ := R1.put hn (Rc.lst (.nil))
            exact ⟨.inl ⟨rfl, _, SqL.of ho⟩, a, _, rfl, rfl, ho, h1 w1 _ _ e3 R3 .non⟩
      · exact h1.elim
    · exact h1.elim⟩
theorem RvL.init {r : List Addr} {G : Hp} : ∀ {vs : List V} {ds : List Dx}, RvL K r G vs ds → RvL K r G vs.dropLast ds.dropLast
  | _, _, .nil => .nil
  | _, _, .cons h .nil => .nil
  | _, _, .cons h (.cons k l) => by
    rw [List.dropLast_cons₂, List.dropLast_cons₂]
    exact .cons h (RvL.init (.cons k l))
theorem i_pop {mo : ME} : ∀ σ H Q, cE K p W (ePop mo) σ H Q → tBM0 K "list" rPop (cE K p W mo) σ H Q := fun σ H Q ⟨w, e, s, R, E, h⟩ =>
  ⟨w, e, s, R, E, Fin.bind h fun x s1 w1 H1 v x1 R1 r1 h1 => by
    split at h1
    · split at h1
      · rename_i xs hs
        cases r1 with
        | cell hn =>
          rename_i a
          obtain ⟨o, ho, hc⟩ := R1.at_ hn hs
          cases hc with
          | lst l =>
            split at h1
            · rename_i d hd
              obtain ⟨y, hy, ry⟩ := l.at_ hd
              obtain ⟨R3, e3⟩ := R1.put hn (Rc.lst l.init)
              exact ⟨.inl ⟨rfl, _, SqL.of ho⟩, a, _, y, rfl, rfl, ho, by rw [l.len]; exact hy, h1 w1 _ _ e3 R3 (ry.ext e3)⟩
            · exact h1.elim
      · exact h1.elim
    · exact h1.elim⟩
theorem i_pop0 {mo : ME} : ∀ σ H Q, cE K p W (ePop0 mo) σ H Q → tBM K "list" rPopAt (cE K p W mo) (tCons (tC (.int 0)) tNil) σ H Q := fun σ H Q ⟨w, e, s, R, E, h⟩ =>
  ⟨w, e, s, R, E, Fin.bind h fun x s1 w1 H1 v x1 R1 r1 h1 => by
    split at h1
    · split at h1
      · rename_i d xs hs
        cases r1 with
        | cell hn =>
          rename_i a
          obtain ⟨o, ho, hc⟩ := R1.at_ hn hs
          cases hc with
          | lst l =>
            cases l with
            | cons ry l =>
              rename_i y ys
              obtain ⟨R3, e3⟩ := R1.put hn (Rc.lst l)
              refine ⟨.inl ⟨rfl, _, SqL.of ho⟩, a, _, 0, 0, y, rfl, rfl, ho, by decide, by decide, ?_, rfl, h1 w1 _ _ e3 R3 (ry.ext e3)⟩
              unfold seqIndex?
              simp
      · exact h1.elim
    · exact h1.elim⟩
theorem i_ext {mo ma : ME} : ∀ σ H Q, cE K p W (eExt mo ma) σ H Q → tBM K "list" rExtend (cE K p W mo) (tCons (cE K p W ma) tNil) σ H Q := fun σ H Q ⟨w, e, s, R, E, h⟩ =>
  ⟨w, e, s, R, E, Fin.bind h fun x s1 w1 H1 v x1 R1 r1 h1 => by
    split at h1
    · split at h1
      · rename_i xs hs
        cases r1 with
        | cell hn =>
          rename_i a
          obtain ⟨o, ho, hc⟩ := R1.at_ hn hs
          cases hc with
          | lst l =>
            refine ⟨.inl ⟨rfl, _, SqL.of ho⟩, w1, e, s1, R1, E.ext x1, Fin.bind h1 fun d2 s2 w2 H2 v2 x2 R2 r2 h2 => ?_⟩
            split at h2
            · rename_i zs ys hz hs2
              obtain ⟨o2, ho2, hc2⟩ := R2.at_ (x2.pre _ _ hn) hs2
              cases hc2 with
              | lst l2 =>
                obtain ⟨b, us, rfl, hb, lb⟩ := Rv.asM R2 r2 hz
                split at h2
                · rename_i hl
                  obtain ⟨R3, e3⟩ := R2.put (x2.pre _ _ hn) (Rc.lst (l2.app lb))
                  exact ⟨a, b, _, us, rfl, rfl, ho2, hb, by rw [l2.len, lb.len]; exact most_le hl, h2 w2 _ _ e3 R3 .non⟩
                · exact h2.elim
            · exact h2.elim
      · exact h1.elim
    · exact h1.elim⟩
theorem idx_at {r : List Addr} {G : Hp} {v : V} {d : Dx} (hv : Rv K r G v d) (fv : flat d = true) : ∀ {vs : List V} {ds : List Dx} {j : Nat}, RvL K r G vs ds → ds.all flat = true → idxOf d ds = some j →
    ∃ z, vs[j]? = some z ∧ eqV z v = true ∧ ∀ (m : Nat) (z' : V), m < j → vs[m]? = some z' → eqV z' v = false
  | _, _, _, .nil, _, h => by cases h
  | _, _, j, .cons (v := u) (d := x) hx l, f, h => by
    simp only [List.all_cons, Bool.and_eq_true] at f
    have e := eq_flat hx hv f.1 fv
    unfold idxOf at h
    split at h
    · rename_i q
      cases h
      exact ⟨u, rfl, e.trans q, fun m z' hm => absurd hm (Nat.not_lt_zero _)⟩
    · rename_i q
      obtain ⟨i, hi, rfl⟩ := Option.map_eq_some_iff.mp h
      obtain ⟨z, h1, h2, h3⟩ := idx_at hv fv l f.2 hi
      refine ⟨z, h1, h2, fun m z' hm hz => ?_⟩
      cases m with
      | zero => cases hz; rw [e]; simpa using q
      | succ m => exact h3 m z' (by omega) hz
theorem i_index {mo ma : ME} : ∀ σ H Q, cE K p W (eIndex mo ma) σ H Q → tBM K "list" (rIndex K) (cE K p W mo) (tCons (cE K p W ma) tNil) σ H Q := fun σ H Q ⟨w, e, s, R, E, h⟩ =>
  ⟨w, e, s, R, E, Fin.bind h fun x s1 w1 H1 v x1 R1 r1 h1 => by
    split at h1
    · rename_i xs hq
      obtain ⟨a, vs, rfl, ha, la⟩ := r1.asL R1 hq
      refine ⟨.inl ⟨rfl, _, ha⟩, w1, e, s1, R1, E.ext x1, Fin.bind h1 fun d2 s2 w2 H2 v2 x2 R2 r2 h2 => ?_⟩
      split at h2
      · rename_i ys hq2
        obtain ⟨b, us, eb, hb, lb⟩ := (r1.ext x2).asL R2 hq2
        cases eb
        split at h2
        · rename_i hf
          simp only [Bool.and_eq_true] at hf
          split at h2
          · rename_i j hj
            obtain ⟨z, h3, h4, h5⟩ := idx_at r2 hf.1 lb hf.2 hj
            exact ⟨a, us, v2, j, z, rfl, rfl, hb, flat_V r2 hf.1, all_flat lb hf.2, h3, h4, h5, Fin.now h2 R2 (.int _)⟩
          · exact h2.elim
        · exact h2.elim
      · exact h2.elim
    · exact h1.elim⟩
theorem i_augF (hc : Hc K) {f : String} {mo ma : ME} {op : O2} {rd : V → V → Hp → VK → Prop} (sr : SimO2 K rd op) : ∀ D σ H, cS K p W (sAugF f mo ma op) D σ H → sFldAug K (cE K p W mo) (cE K p W ma) rd (Str.ofString f) D σ H := fun D σ H ⟨w, e, s, R, E, h⟩ =>
  ⟨w, e, s, R, E, FinS.bind E h fun d s1 w1 H1 v x1 R1 r1 h1 => by
    split at h1
    · split at h1
      · rename_i n C fs hs
        cases r1 with
        | cell hn =>
          rename_i a
          obtain ⟨o, ho, hcc⟩ := R1.at_ hn hs
          cases hcc with
          | obj m g l =>
            rename_i dx gs
            split at h1
            · rename_i u hu
              obtain ⟨u', hu', ru⟩ := l.look hu
              have hh : hasF C f = true := by
                have := List.all_eq_true.mp g
                have hm : (f, u) ∈ fs := by
                  clear l h1 ho hs
                  induction fs with
                  | nil => cases hu
                  | cons q fs ih =>
                    obtain ⟨k, x⟩ := q
                    rw [List.lookup_cons] at hu
                    by_cases hk : f = k
                    · subst hk
                      simp only [beq_self_eq_true] at hu
                      cases hu
                      exact List.mem_cons_self
                    · have : (f == k) = false := by simpa using hk
                      rw [this] at hu
                      have g' : (fs.all fun q => hasF C q.1) = true := by simp only [List.all_cons, Bool.and_eq_true] at g; exact g.2
                      exact List.mem_cons_of_mem _ (ih g' hu (List.all_eq_true.mp g'))
                exact this _ hm
              refine ⟨a, _, dx, gs, u', rfl, ho, hc.cls m, hc.na hh, hu', w1, e, s1, R1, E.ext x1, FinS.bind (E.ext x1) h1 fun y s2 w2 H2 v2 x2 R2 r2 h2 => ?_⟩
              refine sr w2 H2 s2 _ _ _ _ _ (WE W σ) R2 (ru.ext x2) r2 (FinS.bind ((E.ext x1).ext x2) h2 fun z s3 w3 H3 v3 x3 R3 r3 h3 => ?_)
              split at h3
              · rename_i C2 fs2 hs3
                obtain ⟨o3, ho3, hc3⟩ := R3.at_ (x3.pre _ _ (x2.pre _ _ hn)) hs3
                cases hc3 with
                | obj m3 g3 l3 =>
                  rename_i dx3 gs3
                  split at h3
                  · rename_i hk
                    obtain ⟨rfl, hk1, hk2⟩ := hk
                    obtain ⟨R4, e4⟩ := R3.put (x3.pre _ _ (x2.pre _ _ hn)) (Rc.obj (dx := dx3) m3 (putF_all hk1 g3) (l3.put r3 f))
                    exact ⟨dx3, gs3, ho3, by rw [l3.len]; omega, h3 w3 _ σ e4.weak R4 ((((E.ext x1).ext x2).ext x3).ext e4)⟩
                  · exact h3.elim
              · exact h3.elim
            · exact h1.elim
      · exact h1.elim
    · exact h1.elim⟩
theorem sim_rAdd : SimO2 K rAdd addI := by
  intro w H s x y d e Q E R hx hy h
  unfold addI at h
  split at h
  · cases hx; cases hy; exact ⟨_, _, rfl, rfl, Fin.now h R (.int _)⟩
  · exact h.elim
theorem sim_rSub : SimO2 K rSub subD := by
  intro w H s x y d e Q E R hx hy h
  unfold subD at h
  split at h
  · cases hx; cases hy; exact ⟨_, _, rfl, rfl, Fin.now h R (.int _)⟩
  · exact h.elim
/-! ## pairs that are walked -/
abbrev relX (K : PySem.W.Frag) : List Addr → Hp → It → (List Dx × Option Nat × List Dx) → Prop := fun r G J x => ∀ w H s, Pre r w.r → Same G (w.G H) → Rel K w H s → stands x.2.1 x.2.2 s →
  J.stop x.1.length H ∧ ∀ i d, x.1[i]? = some d → J.go i H ∧ ∀ v H', J.yld i H v H' → Rel K w H' s ∧ Ext [] w H w H' ∧ Rv K w.r (w.G H') v d
abbrev cX (K : PySem.W.Frag) (p : Px) (W : WX) (m : MX) : TI := fun σ H Q => ∃ w e s, Rel K w H s ∧ RelE K p w H e σ ∧ Fin K w H (relX K) Q (WE W σ) (m e s)
theorem i_forX {mw : MX} {g : MG} {b : MS} {gs : List Nat} : ∀ D σ H, cS K p W (sForX mw g b) D σ H → tFor (cX K p W mw) (cG K p gs g) (cS K p W b) D σ H := fun D σ H ⟨w, e, s, R, E, h⟩ =>
  ⟨w, e, s, R, E, FinS.bind E h fun x s1 w1 H1 J x1 R1 r1 h1 => by
    obtain ⟨xs, cc, al⟩ := x
    refine ⟨fun i m σc Hc => m + i = xs.length ∧ ∃ w2 e2 s2, Ext p.z w1 H1 w2 Hc ∧ Rel K w2 Hc s2 ∧ RelE K p w2 Hc e2 σc ∧ FinS K p w2 Hc D W (forL g b cc al (xs.drop i) e2 s2), ⟨xs.length, by omega, w1, e, s1, Ext.refl _ _ _, R1, E.ext x1, h1⟩, fun i m σc Hc ⟨hm, w2, e2, s2, eH, R2, E2, hF⟩ => ?_⟩
    by_cases hlt : i < xs.length
    · have hd : xs.drop i = xs[i] :: xs.drop (i + 1) := List.drop_eq_getElem_cons hlt
      rw [hd] at hF
      unfold forL at hF
      by_cases st : stands cc al s2
      · rw [if_pos st] at hF
        obtain ⟨_, hy⟩ := r1 w2 Hc s2 eH.pre eH.s R2 st
        obtain ⟨hgo, hyl⟩ := hy i xs[i] (List.getElem?_eq_getElem hlt)
        refine .inr ⟨hgo, fun σ' H' => (m - 1) + (i + 1) = xs.length ∧ ∃ w2 e2 s2, Ext p.z w1 H1 w2 H' ∧ Rel K w2 H' s2 ∧ RelE K p w2 H' e2 σ' ∧ FinS K p w2 H' D W (forL g b cc al (xs.drop (i + 1)) e2 s2), fun σ' H' hH => ⟨m - 1, by omega, hH⟩, fun v H' hv => ?_⟩
        obtain ⟨R3, x3, rv⟩ := hyl v H' hv
        have E3 := E2.ext x3
        have eH3 := eH.trans x3.weak
        cases he : g xs[i] e2 s2 with
        | none => rw [he] at hF; exact hF.elim
        | some e3 =>
          rw [he] at hF
          simp only at hF
          refine ⟨w2, e2, s2, xs[i], e3, R3, E3, rv, he, fun σ3 E4 _ => ⟨w2, e3, s2, R3, E4, ?_⟩⟩
          cases hb : b e3 s2 with
          | nx e4 s4 => rw [hb] at hF; exact fun w4 H4 σ4 x4 R4 E4 => ⟨by omega, w4, e4, s4, eH3.trans x4, R4, E4, FinS.ext hF (x3.weak.trans x4)⟩
          | ct e4 s4 => rw [hb] at hF; exact fun w4 H4 σ4 x4 R4 E4 => ⟨by omega, w4, e4, s4, eH3.trans x4, R4, E4, FinS.ext hF (x3.weak.trans x4)⟩
          | bk e4 s4 => rw [hb] at hF; exact FinS.ext hF x3.weak
          | rt v4 s4 => rw [hb] at hF; exact FinS.ext hF x3.weak
          | exc C fs e4 s4 => rw [hb] at hF; exact FinS.ext hF x3.weak
          | stuck => rw [hb] at hF; exact hF
      · rw [if_neg st] at hF; exact hF.elim
    · have hie : i = xs.length := by omega
      have hd : xs.drop i = [] := List.drop_eq_nil_of_le (by omega)
      rw [hd] at hF
      unfold forL at hF
      by_cases st : stands cc al s2
      · rw [if_pos st] at hF
        obtain ⟨hst, _⟩ := r1 w2 Hc s2 eH.pre eH.s R2 st
        exact .inl ⟨by rw [hie]; exact hst, hF w2 Hc σc (Ext.refl _ _ _) R2 E2⟩
      · rw [if_neg st] at hF; exact hF.elim⟩
theorem i_lcX {c : Bool} {mw : MX} {g : MG} {tt : MT} {te : ME} {gs ws : List Nat} (hw : ∀ i ∈ ws, p.free i) (hs : ∀ i ∈ gs, i ∈ ws) : ∀ σ H Q, cE K p W (eLcX c mw g tt te ws) σ H Q → tLc (cX K p W mw) (cG K p gs g) (cT K p Wn tt) (cE K p Wn te) ws σ H Q := fun σ H Q ⟨w, e, s, R, E, h⟩ =>
  ⟨w, e, s, R, E, Fin.bind h fun x s1 w1 H1 J x1 R1 r1 h1 D hD => by
    obtain ⟨xs, cc, al⟩ := x
    split at h1
    · rename_i hl
      have E1 := E.ext x1
      refine ⟨fun i m Hc => m + i = xs.length ∧ ∃ w2 s2 vs ds, ExtH D w1 H1 w2 Hc ∧ Rel K w2 Hc s2 ∧ Hc D = some (.lst vs) ∧ RvL K w2.r (w2.G Hc) vs ds ∧ ds.length ≤ i ∧
        Fin K w1 H1 (Rv K) Q (WE W σ) ((lcL g tt te { e with sl := wipeE e.sl ws } cc al (xs.drop i) s2).bind fun ys s3 => Pm.newL c (ds ++ ys) s3), ⟨xs.length, by omega, ?_⟩, fun i m Hc ⟨hm, w2, s2, vs, ds, eH, R2, hD2, l2, hi, hF⟩ => ?_⟩
      · obtain ⟨R2, e2⟩ := R1.hide hD (.lst [])
        exact ⟨_, s1, [], [], e2, R2, upd_same, .nil, Nat.le_refl _, h1⟩
      · have Dm : D ∈ w2.h := by rw [eH.h]; exact List.mem_cons_self
        by_cases hlt : i < xs.length
        · have hd : xs.drop i = xs[i] :: xs.drop (i + 1) := List.drop_eq_getElem_cons hlt
          rw [hd] at hF
          unfold lcL at hF
          by_cases st : stands cc al s2
          · rw [if_pos st] at hF
            obtain ⟨_, hy⟩ := r1 w2 Hc s2 eH.pre eH.s R2 st
            obtain ⟨hgo, hyl⟩ := hy i xs[i] (List.getElem?_eq_getElem hlt)
            refine .inr ⟨hgo, fun H' => (m - 1) + (i + 1) = xs.length ∧ ∃ w2 s2 vs ds, ExtH D w1 H1 w2 H' ∧ Rel K w2 H' s2 ∧ H' D = some (.lst vs) ∧ RvL K w2.r (w2.G H') vs ds ∧ ds.length ≤ i + 1 ∧
              Fin K w1 H1 (Rv K) Q (WE W σ) ((lcL g tt te { e with sl := wipeE e.sl ws } cc al (xs.drop (i + 1)) s2).bind fun ys s3 => Pm.newL c (ds ++ ys) s3), fun H' hH => ⟨m - 1, by omega, hH⟩, fun v H' hv => ?_⟩
            obtain ⟨Ry, xy, rv⟩ := hyl v H' hv
            have eH := eH.trans xy (fun a ha => by cases ha)
            have R2 := Ry
            have hD2 : H' D = some (.lst vs) := by rw [xy.k D Dm (by simp)]; exact hD2
            have l2 := l2.ext xy
            cases he : g xs[i] { e with sl := wipeE e.sl ws } s2 with
            | none => rw [he] at hF; exact hF.elim
            | some e1 =>
              rw [he] at hF
              simp only at hF
              have E2 : RelE K p w2 H' { e with sl := wipeE e.sl ws } (L2.wipe σ ws) := (E1.ext' eH.s eH.pre fun a ha => ⟨by rw [eH.h]; exact List.mem_cons_of_mem _ ha, eH.k a ha⟩).wipe ws hw
              refine ⟨w2, _, s2, xs[i], e1, R2, E2, rv, he, fun σ2 Es hw2 => ⟨by rw [hw2 ws hs, wipe_wipe], w2, e1, s2, R2, Es, ?_⟩⟩
              cases ht : tt e1 s2 with
              | stuck => rw [ht] at hF; exact hF.elim
              | exc C fs s3 => rw [ht] at hF; exact hF.elim
              | ok b s3 =>
                rw [ht] at hF
                simp only [Pm.R.calm, Pm.R.bind] at hF
                intro w3 H3 b' x3 R3 hb
                cases hb
                cases b with
                | false =>
                  simp only [Bool.false_eq_true, if_false] at hF ⊢
                  exact ⟨by omega, w3, s3, vs, ds, eH.trans x3 (fun a ha => by cases ha), R3, by rw [x3.k D Dm (by simp)]; exact hD2, l2.ext x3, by omega, hF⟩
                | true =>
                  simp only [if_true] at hF ⊢
                  refine ⟨w3, e1, s3, R3, Es.ext x3, ?_⟩
                  cases hu : te e1 s3 with
                  | stuck => rw [hu] at hF; exact hF.elim
                  | exc C fs s4 => rw [hu] at hF; exact hF.elim
                  | ok y s4 =>
                    rw [hu] at hF
                    simp only [Pm.R.calm, Pm.R.bind] at hF
                    intro w4 H4 v4 x4 R4 r4
                    have e24 : ExtH D w1 H1 w4 H4 := (eH.trans x3 (fun a ha => by cases ha)).trans x4 (fun a ha => by cases ha)
                    have Dm4 : D ∈ w4.h := by rw [e24.h]; exact List.mem_cons_self
                    have hD4 : H4 D = some (.lst vs) := by rw [x4.k D (by rw [x3.h]; exact Dm) (by simp), x3.k D Dm (by simp)]; exact hD2
                    obtain ⟨R5, e5, g5⟩ := R4.updH Dm4 (.lst (vs ++ [v4]))
                    refine ⟨vs, hD4, by rw [l2.len]; exact most_lt (Nat.lt_of_le_of_lt hi (Nat.lt_of_lt_of_le hlt hl)), by omega, w4, s4, vs ++ [v4], ds ++ [y], e24.trans e5 (fun a ha => List.mem_singleton.mp ha), R5, upd_same, ?_, by simp; omega, ?_⟩
                    · rw [g5]
                      exact ((l2.ext x3).ext x4).app (.cons r4 .nil)
                    · rw [← bind_cons]; exact hF
          · rw [if_neg st] at hF; exact hF.elim
        · have hie : i = xs.length := by omega
          have hd : xs.drop i = [] := List.drop_eq_nil_of_le (by omega)
          rw [hd] at hF
          unfold lcL at hF
          by_cases st : stands cc al s2
          · rw [if_pos st] at hF
            obtain ⟨hst, _⟩ := r1 w2 Hc s2 eH.pre eH.s R2 st
            refine .inl ⟨by rw [hie]; exact hst, ?_⟩
            simp only [Pm.R.bind, List.append_nil] at hF
            cases c with
            | false =>
              obtain ⟨R4, e4, g4, d4⟩ := R2.unhide eH
              exact hF _ _ _ e4 R4 (.lst (d4.trans hD2) (l2.mono g4 (Pre.refl _)))
            | true =>
              obtain ⟨R4, e4⟩ := R2.unhideC eH hD2 (.lst l2)
              refine hF _ _ _ e4 R4 (.cell ?_)
              show (w2.r ++ [D])[s2.length]? = some D
              rw [← R2.len]; simp
          · rw [if_neg st] at hF; exact hF.elim
    · exact h1.elim⟩
/-- the list behind a walked thing -/
theorem cell_walk {r : List Addr} {G : Hp} {w0 : Wd} {H0 : Hp} {s0 : Sto} (R0 : Rel K w0 H0 s0) {v : V} {d : Dx} (h : Rv K w0.r (w0.G H0) v d) {xs : List Dx} {c : Option Nat} (e : Pm.cellOf s0 d = some (xs, c)) :
    ∃ a, v = .ref a ∧ (∃ vs, SqL K H0 a vs) ∧ ∀ w H s, Pre w0.r w.r → Same (w0.G H0) (w.G H) → Rel K w H s → stands c xs s → ∃ vs, SqL K H a vs ∧ RvL K w.r (w.G H) vs xs := by
  cases h with
  | lst h l =>
    cases e
    exact ⟨_, rfl, ⟨_, SqL.of (hid_some h).2⟩, fun w H s pr sm R st => ⟨_, SqL.of (hid_some (sm _ _ h)).2, l.mono sm pr⟩⟩
  | fro h l =>
    cases e
    exact ⟨_, rfl, ⟨_, seqL_same hid_same h⟩, fun w H s pr sm R st => ⟨_, seqL_same (Same.trans sm hid_same) h, l.mono sm pr⟩⟩
  | cell h =>
    simp only [Pm.cellOf] at e
    split at e
    · rename_i ys hs
      cases e
      obtain ⟨o, h1, h2⟩ := R0.at_ h hs
      cases h2 with
      | lst l =>
        refine ⟨_, rfl, ⟨_, SqL.of h1⟩, fun w H s pr sm R st => ?_⟩
        obtain ⟨o, h3, h4⟩ := R.at_ (pr _ _ h) st
        cases h4 with
        | lst l => exact ⟨_, SqL.of h3, l⟩
    · cases e
  | _ => cases e
theorem enum_at : ∀ (xs : List Dx) (n i : Nat) (d : Dx), (enumL n xs)[i]? = some d → ∃ x, xs[i]? = some x ∧ d = .tup [.int ((n + i : Nat) : Int), x]
  | [], _, _, _, h => by simp [enumL] at h
  | x :: xs, n, 0, d, h => by
    simp only [enumL, List.getElem?_cons_zero, Option.some.injEq] at h
    exact ⟨x, rfl, h.symm⟩
  | x :: xs, n, i + 1, d, h => by
    simp only [enumL, List.getElem?_cons_succ] at h ⊢
    obtain ⟨y, h1, h2⟩ := enum_at xs (n + 1) i d h
    exact ⟨y, h1, by rw [h2, show n + 1 + i = n + (i + 1) from by omega]⟩
theorem enum_len : ∀ (xs : List Dx) (n : Nat), (enumL n xs).length = xs.length
  | [], _ => rfl
  | _ :: xs, n => congrArg (· + 1) (enum_len xs (n + 1))
theorem i_xEnum {ma : ME} : ∀ σ H Q, cX K p W (xEnum ma) σ H Q → iEnum K (tCons (cE K p W ma) tNil) σ H Q := fun σ H Q ⟨w, e, s, R, E, h⟩ =>
  ⟨w, e, s, R, E, Fin.bind h fun x s1 w1 H1 v x1 R1 r1 h1 => by
    split at h1
    · rename_i xs c hq
      obtain ⟨a, rfl, ⟨vs, hv⟩, hw⟩ := cell_walk (r := []) (G := H1) R1 r1 hq
      refine ⟨a, vs, rfl, hv, Fin.now h1 R1 fun w2 H2 s2 pr sm R2 st => ?_⟩
      obtain ⟨us, h2, l2⟩ := hw w2 H2 s2 pr sm R2 st
      refine ⟨⟨us, h2, by rw [l2.len, enum_len]; exact Nat.le_refl _⟩, fun i d hd => ?_⟩
      obtain ⟨y, hy, rfl⟩ := enum_at _ _ _ _ hd
      obtain ⟨u, hu, ru⟩ := l2.at_ hy
      refine ⟨⟨us, u, h2, hu⟩, fun v H' hyl => ?_⟩
      obtain ⟨T, x', rfl, hT, rfl, hx⟩ := hyl
      have := hx us h2
      rw [hu] at this
      cases this
      obtain ⟨R3, e3, g3⟩ := R2.new hT (.tup [.int (i : Nat), u])
      refine ⟨R3, e3, .tup (SqT.of g3) (.cons ?_ (.cons (ru.ext e3) .nil))⟩
      rw [Nat.zero_add]
      exact .int _
    · exact h1.elim⟩
theorem zip_at : ∀ (xs ys : List Dx) (i : Nat) (d : Dx), (zipL xs ys)[i]? = some d → ∃ x y, xs[i]? = some x ∧ ys[i]? = some y ∧ d = .tup [x, y]
  | x :: xs, y :: ys, 0, d, h => by
    simp only [zipL, List.getElem?_cons_zero, Option.some.injEq] at h
    exact ⟨x, y, rfl, rfl, h.symm⟩
  | x :: xs, y :: ys, i + 1, d, h => by
    simp only [zipL, List.getElem?_cons_succ] at h ⊢
    exact zip_at xs ys i d h
  | [], _, _, _, h => by simp [zipL] at h
  | _ :: _, [], _, _, h => by simp [zipL] at h
theorem zip_len : ∀ (xs ys : List Dx), xs.length ≤ (zipL xs ys).length ∨ ys.length ≤ (zipL xs ys).length
  | [], _ => .inl (Nat.le_refl _)
  | _ :: _, [] => .inr (Nat.le_refl _)
  | _ :: xs, _ :: ys => by
    simp only [zipL, List.length_cons]
    rcases zip_len xs ys with h | h
    · exact .inl (by omega)
    · exact .inr (by omega)
theorem zip_rel {w1 : Wd} {H1 : Hp} {s1 : Sto} {a b : Addr} {xs ys al : List Dx} {c : Option Nat}
    (hw : ∀ w H s, Pre w1.r w.r → Same (w1.G H1) (w.G H) → Rel K w H s → stands c al s → ∃ vs, SqL K H a vs ∧ RvL K w.r (w.G H) vs xs)
    (hw' : ∀ w H s, Pre w1.r w.r → Same (w1.G H1) (w.G H) → Rel K w H s → stands c al s → ∃ vs, SqL K H b vs ∧ RvL K w.r (w.G H) vs ys) : relX K w1.r (w1.G H1) (Itz K a b) (zipL xs ys, c, al) := fun w2 H2 s2 pr sm R2 st => by
  obtain ⟨us, h2, l2⟩ := hw w2 H2 s2 pr sm R2 st
  obtain ⟨us', h3, l3⟩ := hw' w2 H2 s2 pr sm R2 st
  refine ⟨⟨us, us', h2, h3, by rw [l2.len, l3.len]; exact zip_len xs ys⟩, fun i d hd => ?_⟩
  obtain ⟨x, y, hx, hy, rfl⟩ := zip_at _ _ _ _ hd
  obtain ⟨u, hu, ru⟩ := l2.at_ hx
  obtain ⟨u', hu', ru'⟩ := l3.at_ hy
  refine ⟨⟨us, us', u, u', h2, h3, hu, hu'⟩, fun v H' hyl => ?_⟩
  obtain ⟨T, x', y', rfl, hT, rfl, q1, q2⟩ := hyl
  have := q1 us h2
  rw [hu] at this
  cases this
  have := q2 us' h3
  rw [hu'] at this
  cases this
  obtain ⟨R3, e3, g3⟩ := R2.new hT (.tup [u, u'])
  exact ⟨R3, e3, .tup (SqT.of g3) (.cons (ru.ext e3) (.cons (ru'.ext e3) .nil))⟩
theorem i_xZip {ma mb : ME} : ∀ σ H Q, cX K p W (xZip ma mb) σ H Q → RZ.iZipA K (tCons (cE K p W ma) (tCons (cE K p W mb) tNil)) σ H Q := fun σ H Q ⟨w, e, s, R, E, h⟩ =>
  ⟨w, e, s, R, E, Fin.bind h fun x s1 w1 H1 v x1 R1 r1 h1 => ⟨w1, e, s1, R1, E.ext x1, Fin.bind h1 fun y s2 w2 H2 v2 x2 R2 r2 h2 => by
    have r1 := r1.ext x2
    split at h2
    · cases r1 with | tup hx lx =>
      cases r2 with | tup hy ly =>
      rename_i xs ys _ _ a vs b us
      refine ⟨a, b, vs, us, rfl, .inr ⟨seqT_same hid_same hx, seqT_same hid_same hy, Fin.now h2 R2 fun w3 H3 s3 pr sm R3 st => ?_⟩⟩
      have hx3 := seqT_same (Same.trans sm hid_same) hx
      have hy3 := seqT_same (Same.trans sm hid_same) hy
      have l2 := lx.mono sm pr
      have l3 := ly.mono sm pr
      refine ⟨⟨vs, us, hx3, hy3, by rw [l2.len, l3.len]; exact zip_len _ _⟩, fun i d hd => ?_⟩
      obtain ⟨x, y, hx, hy, rfl⟩ := zip_at _ _ _ _ hd
      obtain ⟨u, hu, ru⟩ := l2.at_ hx
      obtain ⟨u', hu', ru'⟩ := l3.at_ hy
      refine ⟨⟨vs, us, u, u', hx3, hy3, hu, hu'⟩, fun v H' hyl => ?_⟩
      obtain ⟨T, x', y', rfl, hT, rfl, q1, q2⟩ := hyl
      have := q1 _ hx3
      rw [hu] at this
      cases this
      have := q2 _ hy3
      rw [hu'] at this
      cases this
      obtain ⟨R4, e4, g4⟩ := R3.new hT (.tup [u, u'])
      exact ⟨R4, e4, .tup (SqT.of g4) (.cons (ru.ext e4) (.cons (ru'.ext e4) .nil))⟩
    · split at h2
      · rename_i xs c ys q1 q2
        obtain ⟨a, rfl, ⟨vs, hv⟩, hw⟩ := cell_walk (r := []) (G := H1) R2 r1 q1
        obtain ⟨b, rfl, ⟨us, hu⟩, hw'⟩ := cell_walk (r := []) (G := H1) R2 r2 q2
        exact ⟨a, b, vs, us, rfl, .inl ⟨hv, hu, Fin.now h2 R2 (zip_rel (s1 := s2) hw fun w H s p1 p2 p3 _ => hw' w H s p1 p2 p3 trivial)⟩⟩
      · rename_i xs ys c _ q1 q2
        obtain ⟨a, rfl, ⟨vs, hv⟩, hw⟩ := cell_walk (r := []) (G := H1) R2 r1 q1
        obtain ⟨b, rfl, ⟨us, hu⟩, hw'⟩ := cell_walk (r := []) (G := H1) R2 r2 q2
        exact ⟨a, b, vs, us, rfl, .inl ⟨hv, hu, Fin.now h2 R2 (zip_rel (s1 := s2) (fun w H s p1 p2 p3 _ => hw w H s p1 p2 p3 trivial) hw')⟩⟩
      · exact h2.elim⟩⟩
theorem relI_rngD {top : Int} {n : Nat} {r : List Addr} {G : Hp} : relI K r G (Itc top (-1) n) (rngD top n, none) := fun w H s pr sm R st => by
  refine ⟨by show n ≤ _; simp [rngD], fun i d hd => ?_⟩
  unfold rngD at hd
  rw [List.getElem?_map] at hd
  obtain ⟨c, hc, rfl⟩ := Option.map_eq_some_iff.mp hd
  have hi : i < n := by
    have := (List.getElem?_eq_some_iff.mp hc).1
    simpa using this
  rw [List.getElem?_range hi] at hc
  cases hc
  refine ⟨hi, fun x H' hy => ?_⟩
  obtain ⟨rfl, rfl⟩ := hy
  refine ⟨rfl, ?_⟩
  rw [show top + (i : Int) * -1 = top - i from by omega]
  exact .int _
theorem i_wRngD {ms : MA} : ∀ σ H Q, cI K p W (wRngD ms) σ H Q → iRng3 (cA K p W ms) σ H Q := fun σ H Q ⟨w, e, s, R, E, h⟩ =>
  ⟨w, e, s, R, E, Fin.bind h fun d s1 w1 H1 v x1 R1 r1 h1 => by
    split at h1
    · cases r1 with | cons r1 l =>
      cases l with | cons r2 l =>
      cases l with | cons r3 l =>
      cases l; cases r1; cases r2; cases r3
      split at h1
      · rename_i hc
        obtain ⟨rfl, hc⟩ := hc
        exact ⟨_, _, _, _, rfl, RgC.neg (by omega) (by omega) (by omega) (by omega), Fin.now h1 R1 relI_rngD⟩
      · exact h1.elim
    · exact h1.elim⟩
end
end Ps

/-! # soundness: more comparisons -/
namespace Ps
open PySem PySem.Spec PyProof.Rows L2 Vs He Pm
def rEqE (K : PySem.W.Frag) : R2 := fun x y H Q => ∃ a b xs ys, x = .ref a ∧ y = .ref b ∧ SqL K H a xs ∧ SqL K H b ys ∧ xs.length ≠ ys.length ∧ Q (.bl false) H
def rNeE (K : PySem.W.Frag) : R2 := fun x y H Q => ∃ a b xs ys, x = .ref a ∧ y = .ref b ∧ SqL K H a xs ∧ SqL K H b ys ∧ xs.length ≠ ys.length ∧ Q (.bl true) H
section
variable {X : Cx}
theorem op_eqE (hu : X.A.units + 64 < cLine) : OpR X (compareOp .Eq) (rEqE X.K) := by
  intro pins s σ H x y v u Q I rx ry h
  obtain ⟨a, b, xs, ys, rfl, rfl, ha, hb, hl, q⟩ := h
  cases (show v = Value.ref a from rx)
  cases (show u = Value.ref b from ry)
  obtain ⟨us, r1, p1, _⟩ := I.list ha
  obtain ⟨ws, r2, p2, _⟩ := I.list hb
  have hsz : (us.toArray.size != ws.toArray.size) = true := by
    rw [List.size_toArray, List.size_toArray, ← r1.length, ← r2.length]
    simpa using hl
  exact SeqAt.RcAt.lists_lengths p1.isList p2.isList hsz (by omega) _ _ _ _ ⟨.bl false, H, I, rfl, q⟩
theorem op_neE (hu : X.A.units + 64 < cLine) : OpR X (compareOp .NotEq) (rNeE X.K) := by
  intro pins s σ H x y v u Q I rx ry h
  obtain ⟨a, b, xs, ys, rfl, rfl, ha, hb, hl, q⟩ := h
  cases (show v = Value.ref a from rx)
  cases (show u = Value.ref b from ry)
  obtain ⟨us, r1, p1, _⟩ := I.list ha
  obtain ⟨ws, r2, p2, _⟩ := I.list hb
  have hsz : (us.toArray.size != ws.toArray.size) = true := by
    rw [List.size_toArray, List.size_toArray, ← r1.length, ← r2.length]
    simpa using hl
  exact SeqAt.RcNeAt.lists_lengths p1.isList p2.isList hsz (by omega) _ _ _ _ ⟨.bl true, H, I, rfl, q⟩
theorem om_eqE (hu : X.A.units + 64 < cLine) : OpM X (compareOp .Eq) eqE := by
  obtain ⟨r, hr, sr⟩ := om_eq hu
  refine ⟨_, (op_eqE hu).or hr, ?_⟩
  intro w H s x y d e Q E R hx hy h
  unfold eqE at h
  split at h
  · rename_i xs h1 h2
    obtain ⟨a, vs, rfl, ha, la⟩ := hx.asL R h1
    obtain ⟨b, us, rfl, hb, lb⟩ := hy.asL R h2
    cases lb
    cases xs with
    | nil =>
      refine .inr (sr w H s _ _ d e Q E R hx hy ?_)
      have e1 : Pm.res s d = .lst [] ∨ Pm.res s d = .fro [] := by
        cases d <;> simp [Pm.asL] at h1 <;> try (subst h1; first | exact .inl rfl | exact .inr rfl)
        rename_i n
        split at h1
        · rename_i q; cases h1; left; simp [Pm.res, q]
        · cases h1
      have e2 : Pm.res s e = .lst [] ∨ Pm.res s e = .fro [] := by
        cases e <;> simp [Pm.asL] at h2 <;> try (subst h2; first | exact .inl rfl | exact .inr rfl)
        rename_i n
        split at h2
        · rename_i q; cases h2; left; simp [Pm.res, q]
        · cases h2
      unfold eqD
      rcases e1 with e1 | e1 <;> rcases e2 with e2 | e2 <;> rw [e1, e2] <;> exact h
    | cons x xs =>
      exact .inl ⟨a, b, vs, [], rfl, rfl, ha, hb, by rw [la.len]; simp, Fin.now h R (.bl _)⟩
  · exact .inr (sr w H s x y d e Q E R hx hy h)
theorem om_neE (hu : X.A.units + 64 < cLine) : OpM X (compareOp .NotEq) neE := by
  obtain ⟨r, hr, sr⟩ := om_ne hu
  refine ⟨_, (op_neE hu).or hr, ?_⟩
  intro w H s x y d e Q E R hx hy h
  unfold neE at h
  split at h
  · rename_i xs h1 h2
    obtain ⟨a, vs, rfl, ha, la⟩ := hx.asL R h1
    obtain ⟨b, us, rfl, hb, lb⟩ := hy.asL R h2
    cases lb
    cases xs with
    | nil =>
      refine .inr (sr w H s _ _ d e Q E R hx hy ?_)
      have e1 : Pm.res s d = .lst [] ∨ Pm.res s d = .fro [] := by
        cases d <;> simp [Pm.asL] at h1 <;> try (subst h1; first | exact .inl rfl | exact .inr rfl)
        rename_i n
        split at h1
        · rename_i q; cases h1; left; simp [Pm.res, q]
        · cases h1
      have e2 : Pm.res s e = .lst [] ∨ Pm.res s e = .fro [] := by
        cases e <;> simp [Pm.asL] at h2 <;> try (subst h2; first | exact .inl rfl | exact .inr rfl)
        rename_i n
        split at h2
        · rename_i q; cases h2; left; simp [Pm.res, q]
        · cases h2
      unfold neD
      rcases e1 with e1 | e1 <;> rcases e2 with e2 | e2 <;> rw [e1, e2] <;> exact h
    | cons x xs =>
      exact .inl ⟨a, b, vs, [], rfl, rfl, ha, hb, by rw [la.len]; simp, Fin.now h R (.bl _)⟩
  · exact .inr (sr w H s x y d e Q E R hx hy h)
end
end Ps
namespace Ps
open PySem PySem.Spec PyProof.Rows L2 Vs He Pm
section
variable {K : PySem.W.Frag} {p : Px} {W : WX}
theorem i_hLst {ws : List Nat} {n : Nat} {gs : MGs} : ∀ v σ H Q, cG K p ws (hLst n gs) v σ H Q → gLst K n (cGs K p ws gs) v σ H Q := fun v σ H Q ⟨w, e, s, d, e', R, E, r, q, h⟩ => by
  unfold hLst at q
  split at q
  · rename_i xs hx
    obtain ⟨a, vs, rfl, ha, l⟩ := r.asL R hx
    split at q
    · rename_i hn
      exact ⟨a, vs, rfl, ha, by rw [l.len]; exact hn, w, e, s, xs, e', R, E, l, q, h⟩
    · cases q
  · cases q
end
end Ps

/-! # soundness: lists of ranges -/
namespace Ps
open PySem PySem.Spec PyProof.Rows L2 Vs He Pm
section
variable {K : PySem.W.Frag} {p : Px} {W : WX}
theorem rvL_int {r : List Addr} {G : Hp} (f : Nat → Int) : ∀ l : List Nat, RvL K r G (l.map fun i => V.int (f i)) (l.map fun i => Dx.int (f i))
  | [] => .nil
  | _ :: l => .cons (.int _) (rvL_int f l)
theorem rgV_rng {r : List Addr} {G : Hp} (n : Int) : RvL K r G (rgV 0 n) (rng 0 n.toNat) := by
  unfold rgV rng
  rw [Int.sub_zero]
  exact rvL_int (fun i => 0 + (i : Int)) _
theorem i_listR {c : Bool} {ma : ME} : ∀ σ H Q, cE K p W (eListR c ma) σ H Q → tLstRg (tRg1 (cE K p W ma)) σ H Q := fun σ H Q ⟨w, e, s, R, E, h⟩ =>
  ⟨w, e, s, R, E, Fin.bind h fun d s1 w1 H1 v x1 R1 r1 h1 => by
    split at h1
    · cases r1
      split at h1
      · rename_i j hj
        refine ⟨j, rfl, ⟨by omega, by omega, by omega, by omega, by omega⟩, fun a n => Fin.newL h1 R1 (rgV_rng j) n⟩
      · exact h1.elim
    · exact h1.elim⟩
end
end Ps

/-! # soundness: exceptions that bear a context and those that don't; except without a name, whose suite raises -/
namespace Ps
open PySem PySem.Spec PyProof.Rows L2 Vs He Pm
def Oth (K : PySem.W.Frag) (W : WX) : WX := fun cls d σ H => (∃ C, C ∈ othN ∧ cls = .ref (ga K C)) ∧ W cls d σ H
def OthE (K : PySem.W.Frag) (E : XK) : XK := fun cls d H => (∃ C, C ∈ othN ∧ cls = .ref (ga K C)) ∧ E cls d H
def CXM (K : PySem.W.Frag) (P : Program) (w : World) : CXT := fun outer H s E u s' => L2N.CX P w outer H s E u s' ∨ L2.CX P w outer H s (OthE K E) u s'
/-- any exception without a context is taken, and of these classes with one -/
structure TakesM (X : Cx) (W : WX) : Prop where
  n : L2N.Takes X W
  o : L2.Takes X (Oth X.K W)
section
variable {X : Cx} {W : WX}
theorem skyN {B : Heap} {l : List Env} {a : Addr} {cls : Value} {d : Option Addr} {L : Addr} {h : Heap} (x : Sky B l a (L2N.Zn cls d) L h) : Sky B l a (Zc cls d) L h := by
  rcases x with ⟨h1, h2, h3, oe, vs, h4, h5, h6, h7⟩ | fl | hd
  · exact .inl ⟨h1, h2, h3, oe, vs, h4, h5.zc, h6, h7⟩
  · exact .inr (.inl (L2H.flyingZ_imp (fun o z => z.zc) fl))
  · exact .inr (.inr ⟨hd.1, hd.2.1, hd.2.2.1, L2H.tracedZ_imp (fun o z => z.zc) hd.2.2.2⟩)
theorem TakesM.of (t : L2.Takes X W) : TakesM X W :=
  ⟨fun u s' ⟨a, B, sI, pins, σ, H, cls, d, e, I, nb, up, sky, r⟩ => t u s' ⟨a, B, sI, pins, σ, H, cls, d, e, I, nb, up, skyN sky, r⟩, t.imp fun _ _ _ _ h => h.2⟩
theorem takesM_of {E : XK} (hs : X.stack = X.env :: X.outer) (hf : X.env.frame = some X.env.locals) (hex : X.ex = []) {E₁ : Value → Shared → Prop}
    (hx : X.xe = fun e s' => wpAny (model X.prog X.w) X.A (leaving X.env e) (fun _ s'' => CXM X.K X.prog X.w X.outer X.H_0 X.s_0 E e s'') E₁ s') : TakesM X (fun cls d _ H => E cls d H) :=
  ⟨fun u s' x => by
    rw [hx]
    exact wpAny_mono (L2N.XE.leave (W := fun cls d _ H => E cls d H) (E := E) hs hf hex (fun _ _ _ _ h => h) x) (fun _ _ h => .inl h) (fun _ _ h => h),
   fun u s' x => by
    rw [hx]
    exact wpAny_mono (L2.XE.leave (W := Oth X.K fun cls d _ H => E cls d H) (E := OthE X.K E) hs hf hex (fun _ _ _ _ h => h) x) (fun _ _ h => .inr h) (fun _ _ h => h)⟩
theorem passM (tk : TakesM X W) (σ : L2.St) : PassesAt (CXM X.K X.prog X.w) X σ (WE W σ) := fun _ _ _ e s' I c =>
  c.elim (fun c => tk.n e s' (L2N.XE.of_call I (fun _ _ _ h => h) c)) fun c => tk.o e s' (L2.XE.of_call I (fun _ _ _ h => h) c)
end
section
variable {X : Cx} {p : Px} {W : WX}
theorem qs_raiseM {C : String} {e : Expr} {pos : Pos} (m : inX C = true) (hc : X.calm = true) (tk : TakesM X W) (he : L2N.PMk X e (fun _ H Q => Q (.ref (ga X.K C)) none H)) : PS X (.Raise (some e) none pos) (cS X.K p W (sRaise C)) := imS (i_raise m) (L2N.ps_raise hc tk.n he)
end
section
variable {K : PySem.W.Frag} {p : Px} {W : WX}
theorem i_raiseOM {C f : String} {j n : Nat} {dv : List Dx} {us : List V} {ms : MA} (m : inX C = true) (hO : C ∈ othN) (k : RvC K us dv) : ∀ D σ H, cS K p W (sRaiseO C f j n dv ms) D σ H → tMkO (ga K C) (spX K C f j n) us (cA K p W ms) σ H fun cls d H' => Oth K W cls d σ H' := fun D σ H ⟨w, e, s, R, E, h⟩ =>
  ⟨w, e, s, R, E, FinS.bind E h fun ds s1 w1 H1 vs x1 R1 r1 h1 => by
    split at h1
    · rename_i hl
      split at h1
      · rename_i d hd
        split at h1
        · rename_i hj
          refine ⟨by rw [r1.len]; exact hl.1, fun a ha => ?_⟩
          have l2 : RvL K w1.r (w1.G H1) (vs ++ us) (ds ++ dv) := r1.app (k _ _)
          obtain ⟨j, rfl⟩ : ∃ i, j = i + 1 := ⟨j - 1, by omega⟩
          rw [List.getElem?_cons_succ] at hd
          obtain ⟨r, hr, rr⟩ := l2.at_ hd
          refine ⟨by rw [List.length_cons, l2.len]; exact hl.2, a, vs ++ us, r, rfl, by rw [List.getElem?_cons_succ]; exact hr, upd_same, fun b hb ne => ?_⟩
          have hb1 : H1 b = none := by rw [upd_ne ne] at hb; exact hb
          refine ⟨rfl, b, _, upd_same, by rw [upd_ne ne, upd_same], hb1, ?_⟩
          have eH : upd (L2.del (upd (upd (upd H1 a (exo a (ga K C) none)) b (exd b [(Str.ofString f, r)])) a (exo a (ga K C) (some b))) a) b (.xd [(Str.ofString f, r)]) = upd H1 b (.xd [(Str.ofString f, r)]) := by
            funext c
            by_cases q : c = b
            · subst q; rw [upd_same, upd_same]
            · rw [upd_ne q, upd_ne q]
              unfold L2.del
              by_cases q2 : c = a
              · rw [if_pos q2, q2, ha]
              · rw [if_neg q2, upd_ne q2, upd_ne q, upd_ne q2]
          rw [eH]
          obtain ⟨R2, e2, g2⟩ := R1.new hb1 (.xd [(Str.ofString f, r)])
          exact ⟨⟨C, hO, rfl⟩, h1 w1 _ σ (some b) e2.weak R2 ((E.ext x1).ext e2) m (.own g2 (.cons (rr.ext e2) .nil))⟩
        · exact h1.elim
      · exact h1.elim
    · exact h1.elim⟩
end
section
variable {X : Cx} {p : Px} {W : WX}
theorem qs_raiseOM {C f : String} {j n : Nat} {dv : List Dx} {us : List V} {ms : MA} {e : Expr} {pos : Pos} (m : inX C = true) (hO : C ∈ othN) (k : RvC X.K us dv) (hc : X.calm = true) (tk : TakesM X W) (he : PMk X e (tMkO (ga X.K C) (spX X.K C f j n) us (cA X.K p W ms))) : PS X (.Raise (some e) none pos) (cS X.K p W (sRaiseO C f j n dv ms)) := imS (i_raiseOM m hO k) (ps_raise hc tk.o he)
end
/-! ## the clause's test -/
/-- what the clause names, asked of an exception's class -/
def HT (X : Cx) (t : Expr) (cs : List Value) : Prop := ∀ (a : Addr) (oe : Obj) (pn pins : List (Addr × Obj)) (σ : L2.St) (H : Hp) (s : Shared) (cls : Value) (b : Bool), Inv (X.suite a ((a, oe) :: pn)) pins σ H s → PySem.W.Looks (model X.prog X.w) s.heap (typeOf (.ref a)) cls → PySem.W.exmAny X.K cls cs = some b →
  ∀ {Q : Bool → Shared → Prop} {E : Value → Shared → Prop}, (∀ h', (∀ b o, s.heap.get? b = some o → h'.get? b = some o) → Q b { s with heap := h' }) → wpAny (model X.prog X.w) (X.A.mark (some (.ref a))) (eval t X.env) (fun c s1 => wpAny (model X.prog X.w) (X.A.mark (some (.ref a))) (excMatches (.ref a) c) Q E s1) E s
section
variable {X : Cx}
theorem ld_name {x : Str} {c : Value} {np : Pos} {a : Addr} {oe : Obj} {pn pins : List (Addr × Obj)} {σ : L2.St} {H : Hp} {s : Shared} (hc : Names X x c) (S : Inv (X.suite a ((a, oe) :: pn)) pins σ H s) {Q : Value → Shared → Prop} {E : Value → Shared → Prop} (q : Q c s) :
    wpAny (model X.prog X.w) (X.A.mark (some (.ref a))) (eval (.Name x np) X.env) Q E s := by
  obtain ⟨hg, hdbg, hm | ⟨hm, hv, hnn⟩⟩ := hc
  · exact ld_glob (X := X.suite a ((a, oe) :: pn)) S hg hm q hdbg
  · exact ld_blt (X := X.suite a ((a, oe) :: pn)) S hg hm hv q hnn hdbg
theorem ht_one {x : Str} {c : Value} {np : Pos} (n : Names X x c) : HT X (.Name x np) [c] := fun a oe pn pins σ H s cls b I LT he Q E q => by
  obtain ⟨b1, d1, h1, h2, h3⟩ := PySem.W.exmAny_cons he
  have hd : d1 = false := by
    have : some false = some d1 := h2
    cases this; rfl
  subst hd
  rw [Bool.or_false] at h3
  subst h3
  exact ld_name n I ((PySem.W.exm_one (M := model X.prog X.w) I.kIn LT h1).here (q s.heap fun _ _ z => z))
theorem ht_three {x1 x2 x3 : Str} {c1 c2 c3 : Value} {p1 p2 p3 tpos : Pos} {kk : Nat} (n1 : Names X x1 c1) (n2 : Names X x2 c2) (n3 : Names X x3 c3) : HT X (.Tuple [.Name x1 p1, .Name x2 p2, .Name x3 p3] kk tpos) [c1, c2, c3] := fun a oe pn pins σ H s cls b I LT he Q E q => by
  refine wpAny_Tuple ?_
  refine wpAny_items_cons (ld_name n1 I ?_)
  refine wpAny_items_cons (ld_name n2 I ?_)
  refine wpAny_items_cons (ld_name n3 I ?_)
  refine wpAny_items_nil ⟨by size_fits, ?_⟩
  have kp : ∀ q o, s.heap.get? q = some o → (s.heap.push { cls := .type "tuple", data := .seq [c1, c2, c3].toArray }).get? q = some o := fun _ _ z => Heap.get?_push_of_some _ z
  exact (PySem.W.exm_tup3 (M := model X.prog X.w) (I.kIn.keeps kp) (LT.keeps kp) (Heap.get?_push_size s.heap rfl) he).here (q _ kp)
end
theorem flyingK {B : Heap} {l : List Env} {a : Addr} {Z : Obj → Prop} {h h' : Heap} (fl : HandSPX.FlyingZ B l a Z h) (k : ∀ b o, h.get? b = some o → h'.get? b = some o) : HandSPX.FlyingZ B l a Z h' := by
  obtain ⟨h1, h2, h3, oe, vs, T, oT, ts, t1, t2, t3, t4, t5, t6, t7, t8, t9⟩ := fl
  exact ⟨fun b o e => k b o (h1 b o e), h2, Heap.FunFrames.of_keeps (fun b o e _ => ⟨o, k b o e, rfl⟩) h3, oe, vs, T, oT, ts, k _ _ t1, t2, t3, t4, t5, t6, k _ _ t7, t8, t9⟩
/-- what the clause wishes -/
def wMt (K : PySem.W.Frag) (cs : List Value) (ts : Addr → Value → Option Addr → TS) (Wout : WX) (D : Ends) : WX := fun cls d σ H => ∃ b, PySem.W.exmAny K cls cs = some b ∧ (b = true → ∀ a, H a = none → ts a cls d D σ H) ∧ (b = false → Wout cls d σ H)
section
variable {X : Cx} {t : Expr} {cs : List Value} {body suite : List Stmt} {b₀ : Stmt} {pos pos' : Pos} {tb : WX → TS} {ts : Addr → Value → Option Addr → TS} {Wout : WX}
theorem ps_try_M (hs : X.stack = X.env :: X.outer) (hf : X.env.frame = some X.env.locals) (ht : HT X t cs) (hm : ∀ C, C ∈ othN → PySem.W.exmAny X.K (.ref (ga X.K C)) cs = some false)
    (hpa : ∀ hd : Option Value, PassesOwnAt (model X.prog X.w) (X.A.mark hd) X.A X.env X.xe) (tk : L2.Takes X Wout)
    (hb : ∀ (W : WX) (pn : List (Addr × Obj)) (xe : Value → Shared → Prop), TakesM (X.tr pn xe) W → PassesOwn (model X.prog X.w) X.A X.env xe → PSs (X.tr pn xe) body (tb W))
    (hsu : ∀ (a : Addr) (oe : Obj) (cls : Value) (d : Option Addr) (pn : List (Addr × Obj)), L2N.Zn cls d oe → (∃ vs, oe.data = .fields vs) → L2.Takes (L2H.suiteX X a ((a, oe) :: pn)) Wout → L2H.HotC (L2H.suiteX X a ((a, oe) :: pn)) →
      PSs (L2H.suiteX X a ((a, oe) :: pn)) (b₀ :: suite) (ts a cls d)) :
    PS X (.Try body [.ExceptHandler (some t) none (b₀ :: suite) pos'] [] [] pos) (fun D σ H => tb (wMt X.K cs ts Wout D) D σ H) := by
  refine ⟨fun pins s σ H D I h => ?_⟩
  have ok := I.ok
  have hfr : X.A.frames = some (X.env :: X.outer) := by rw [ok.frames, hs]
  have notFr : ∀ {B h : Heap} {a : Addr} {o : Obj} {vs : Array Value}, h.FunFrames B (X.env :: X.outer) → h.get? a = some o → o.data = .fields vs → a ∉ frs (X.env :: X.outer) := fun {B h a o vs} ff e dd hm => by
    obtain ⟨_, o', e', hnf⟩ := ff.mem hm
    rw [e] at e'; cases e'
    exact hnf _ dd
  have flyOn : ∀ {a : Addr} {B : Heap} {sI s' : Shared} {σ' : L2.St} {H' : Hp} {cls : Value} {d : Option Addr} {h3 : Heap}, Inv X pins σ' H' sI → (∀ b o, sI.heap.get? b = some o → b ∉ frs X.stack → B.get? b = some o) → sI.heap.UpToSlots h3 →
      HandSPX.FlyingZ B (X.env :: X.outer) a (Zc cls d) h3 → H' a = none → s'.os = sI.os → AllBare s'.gens → Wout cls d σ' H' → wpAny (model X.prog X.w) X.A (handleBy (.ref a) X.env []) (SP X pins D) X.xe { s' with heap := h3 } := by
    intro a B sI s' σ' H' cls d h3 J nb up fl3 na os ag w
    refine wpAny_handleBy_nil ?_
    obtain ⟨k1, k2, k3, oe, vs, T, oT, ts', he, hz, hd, h1, hr⟩ := id fl3
    unfold PySem.passOn
    refine wpAny_bind (wpAny_field he hd h1 ?_)
    rw [if_neg (show ¬ ((Value.ref T == Value.none) = true) from by simp)]
    have fin : wpAny (model X.prog X.w) X.A (setFlight (.ref a) X.env.frame) (fun _ s4 => wpAny (model X.prog X.w) X.A (throw (.ref a) : Sem Flow) (SP X pins D) X.xe s4) X.xe { s' with heap := h3 } := by
      rw [hf]
      refine HandSPX.setFlight_upZ fl3 fun h4 hh4 up4 => wpAny_throw (tk _ _ ?_)
      exact ⟨a, B, sI, pins, σ', H', cls, d, rfl, J, nb, up.trans up4, .inr (.inr (by rw [hs]; exact hh4)), na, os, ag, w⟩
    first
      | exact wpAny_bind (wpAny_pure (wpAny_bind fin))
      | exact wpAny_bind fin
  refine wpAny_Try_except ?_
  refine wpAny_mono ((hb (wMt X.K cs ts Wout D) (X.pn ++ pins) (fun e s₁ => wpAny (model X.prog X.w) X.A (noteFrame e X.env) (fun _ s₂ => wpAny (model X.prog X.w) X.A (setFlight e none) (fun _ s₃ =>
    wpAny (model X.prog X.w) X.A (handleBy e X.env [.ExceptHandler (some t) none (b₀ :: suite) pos']) (SP X pins D) X.xe s₃) X.xe s₂) X.xe s₁) ⟨fun u s' xx => ?_, fun u s' xx => ?_⟩ PassesOwn.looking).run [] s σ H D (I.toTry _) h) (fun f s1 hsp => ?_) (fun e s1 he => he)
  · -- an exception whose context is None
    obtain ⟨a, B, sI, pins', σ', H', cls, d, rfl, J', nb, up, sky, na, os, ag, b, hb1, hyes, hno⟩ := xx
    have J : Inv X pins σ' H' sI := J'.ofTry ok
    have sky' : Sky B (X.env :: X.outer) a (L2N.Zn cls d) X.env.locals s'.heap := by rw [← hs]; exact sky
    show wpAny (model X.prog X.w) X.A (noteFrame (.ref a) X.env) _ _ _
    refine L2N.Sky.land L2N.Zn.steady hfr hf sky' fun h3 fl3 up3 => ?_
    have J3 : Inv X pins σ' H' { s' with heap := h3 } := J.landed nb fl3.1 (up.trans up3) os ag
    obtain ⟨oe3, vs3, he3, hz3, hd3⟩ := fl3.there
    have nfr : a ∉ frs (X.env :: X.outer) := notFr fl3.2.2.1 he3 hd3
    have nL : a ≠ X.env.locals := fun z => nfr (List.mem_filterMap.mpr ⟨X.env, List.mem_cons_self, by rw [hf, z]⟩)
    have nF : a ∉ X.fs := fun hm => by
      obtain ⟨e, he, q⟩ := List.mem_filterMap.mp hm
      exact nfr (List.mem_filterMap.mpr ⟨e, List.mem_cons_of_mem _ he, q⟩)
    have S3 := J3.suite he3 hd3 na nL nF
    refine wpAny_handleBy_cons (codeAny_handlers_test ?_) (by intro q; cases q)
    have LT : PySem.W.Looks (model X.prog X.w) h3 (typeOf (.ref a)) cls := fun A Q E s k q => wpAny_typeOf_ref (k _ _ he3) (by rw [hz3.1]; exact q)
    refine ht a oe3 _ _ _ _ _ cls b S3 LT hb1 fun h5 k5 => ?_
    have fl5 := flyingK fl3 k5
    have up5 : h3.UpToSlots h5 := Heap.UpToSlots.of_keeps k5
    cases b with
    | true =>
      refine codeAny_handlers_suite ?_
      refine HandSPX.lands_againZ fl5 fun h4 fl4 up4 => ?_
      have J4 : Inv X pins σ' H' { s' with heap := h4 } := J.landed nb fl4.1 (((up.trans up3).trans up5).trans up4) os ag
      obtain ⟨oe4, vs4, he4, hz4, hd4⟩ := fl4.there
      have S4 := J4.suite he4 hd4 na nL nF
      have tkS : L2.Takes (L2H.suiteX X a ((a, oe4) :: (X.pn ++ pins))) Wout := fun u2 s2 x2 => by
        obtain ⟨a2, B2, sI2, pn2, σ2, H2, cls2, d2, e2, I2, nb2, up2, sky2, na2, os2, ag2, w2⟩ := x2
        exact tk u2 s2 ⟨a2, B2, sI2, pins, σ2, H2, cls2, d2, e2, L2H.unsuiteX I2 ok, nb2, up2, sky2, na2, os2, ag2, w2⟩
      have hot : L2H.HotC (L2H.suiteX X a ((a, oe4) :: (X.pn ++ pins))) := ⟨(a, oe4), ⟨rfl, vs4, hd4, hz4.2.2 vs4 hd4⟩, List.mem_cons_self⟩
      refine wpAny_mono ((hsu a oe4 cls d (X.pn ++ pins) hz4 ⟨_, hd4⟩ tkS hot).run [] _ _ H' _ (L2H.suiteX_of S4) (hyes rfl a na)) (fun f s6 hsp => ?_) (fun e6 s6 z => hpa (some (.ref a)) e6 s6 z)
      cases f with
      | next =>
        obtain ⟨σ6, H6, S6, q6⟩ := hsp
        exact ⟨_, _, L2H.unsuiteX S6 ok, q6⟩
      | brk =>
        obtain ⟨σ6, H6, S6, q6⟩ := hsp
        exact ⟨_, _, L2H.unsuiteX S6 ok, q6⟩
      | cont =>
        obtain ⟨σ6, H6, S6, q6⟩ := hsp
        exact ⟨_, _, L2H.unsuiteX S6 ok, q6⟩
      | ret u =>
        obtain ⟨v6, σ6, H6, S6, r6, q6⟩ := hsp
        exact ⟨_, _, _, L2H.unsuiteX S6 ok, r6, q6⟩
    | false =>
      show wpAny _ X.A (handleBy (.ref a) X.env []) _ _ _
      exact flyOn (s' := s') J nb ((up.trans up3).trans up5) (L2H.flyingZ_imp (fun o z => z.zc) fl5) na os ag (hno rfl)
  · -- one that may bear a context: the clause doesn't name it
    obtain ⟨a, B, sI, pins', σ', H', cls, d, rfl, J', nb, up, sky, na, os, ag, ⟨C, hC, rfl⟩, b, hb1, hyes, hno⟩ := xx
    have hbf : b = false := by
      have q := hm C hC
      have q2 : PySem.W.exmAny X.K (.ref (ga X.K C)) cs = some b := hb1
      rw [q] at q2
      cases q2; rfl
    subst hbf
    have J : Inv X pins σ' H' sI := J'.ofTry ok
    have sky' : Sky B (X.env :: X.outer) a (Zc (.ref (ga X.K C)) d) X.env.locals s'.heap := by rw [← hs]; exact sky
    show wpAny (model X.prog X.w) X.A (noteFrame (.ref a) X.env) _ _ _
    refine L2.Sky.land Zc.steady hfr hf sky' fun h3 fl3 up3 => ?_
    have J3 : Inv X pins σ' H' { s' with heap := h3 } := J.landed nb fl3.1 (up.trans up3) os ag
    obtain ⟨oe3, vs3, he3, hz3, hd3⟩ := fl3.there
    have nfr : a ∉ frs (X.env :: X.outer) := notFr fl3.2.2.1 he3 hd3
    have nL : a ≠ X.env.locals := fun z => nfr (List.mem_filterMap.mpr ⟨X.env, List.mem_cons_self, by rw [hf, z]⟩)
    have nF : a ∉ X.fs := fun hm => by
      obtain ⟨e, he, q⟩ := List.mem_filterMap.mp hm
      exact nfr (List.mem_filterMap.mpr ⟨e, List.mem_cons_of_mem _ he, q⟩)
    have S3 := J3.suite he3 hd3 na nL nF
    refine wpAny_handleBy_cons (codeAny_handlers_test ?_) (by intro q; cases q)
    have LT : PySem.W.Looks (model X.prog X.w) h3 (typeOf (.ref a)) (.ref (ga X.K C)) := fun A Q E s k q => wpAny_typeOf_ref (k _ _ he3) (by rw [hz3.1]; exact q)
    refine ht a oe3 _ _ _ _ _ _ false S3 LT (hm C hC) fun h5 k5 => ?_
    show wpAny _ X.A (handleBy (.ref a) X.env []) _ _ _
    exact flyOn (s' := s') J nb ((up.trans up3).trans (Heap.UpToSlots.of_keeps k5)) (flyingK fl3 k5) na os ag (hno rfl)
  · cases f with
    | next =>
      obtain ⟨σ', H', J', q⟩ := hsp
      exact wpAny_execs_nil ⟨σ', H', J'.ofTry ok, q⟩
    | brk =>
      obtain ⟨σ', H', J', q⟩ := hsp
      exact ⟨σ', H', J'.ofTry ok, q⟩
    | cont =>
      obtain ⟨σ', H', J', q⟩ := hsp
      exact ⟨σ', H', J'.ofTry ok, q⟩
    | ret u =>
      obtain ⟨v, σ', H', J', r, q⟩ := hsp
      exact ⟨v, σ', H', J'.ofTry ok, r, q⟩
end
/-! ## the suite: raise C(..) from None -/
section
variable {P : Program} {w : World} {K : PySem.W.Frag} {mg : Str → Option Value} {base : Heap} {x qual : Str} {params : Arguments} {body : List Stmt} {scope : Scope} {dvs : List V} {kws : List (Str × V)} {f : Addr} {fd : FuncData}
/-- a def while an exception is handled -/
theorem FunD.okH {CX : CXT} {N ps : List Str} {k : Nat} {sp : Sp} (F : FunD K x qual params body scope dvs kws f fd) (S : FnScope N ps scope) (len : ∀ vs H Q E, sp vs H Q E → vs.length = ps.length)
    (hbody : ∀ (cdv : Value) (A : Around) (outer : List Env) (s : Shared) (H : Hp) (vs : List V) (Q : VK) (E : XK) (p : Addr × Obj), L2H.Hot1 A p → L2H.RoomH k (A.deeper (envOfC qual scope s.heap.objs.size f cdv)) → sp vs H Q E →
      ∃ t, PSs (L2H.cxH CX P w K mg base N qual scope f cdv A outer s H E p) body t ∧ t { nx := fun _ H' => Q .non H', rt := Q } (L2.start N vs) H) : L2H.FnH P w K mg base CX (k + 1) f fd ps sp := by
  obtain ⟨oc, od, dV, kV, doc, pm, an, cdv, ct, osl, rfl, lk, hcd, _, _⟩ := F.ex
  exact L2H.fn_ofH lk hcd S len fun A outer s H vs Q E p hot hr hsp => hbody cdv A outer s H vs Q E p hot hr hsp
end
open L2H in
/-- C(e, ..) with defaults, while an exception is handled -/
theorem pmk5_oexD {X : Cx} {CX : CXT} {x : Str} {e : Expr} {es : List Expr} {ta : TA} {p pos : Pos} {C fI : Addr} {k : Nat} {fd : FuncData} {ps : List Str} {sp : Sp} {ds : List Value} {dvs : List V} (T : OexC X.K C) (iC : PySem.W.findIn X.K (.ref C) "__init__" = some (some (.ref fI))) (tI : PySem.W.typeIn X.K (.ref fI) = some (.type "function"))
    (F1 : FnH X.prog X.w X.K X.mg X.base CX k fI fd ps sp) (hr : RoomH (k + 1) X.A) (hc : HotC X) (hb : Binds X.K fd ps ds) (hd : Vals dvs ds) (hx : Passes CX X (fun _ _ _ => False)) (hg : Gl X x) (hm : X.mg x = some (.ref C)) (ha : PA X (e :: es) ta)
    (hdb : (x == ("__debug__" : Str)) = false := by decide) (he : starEach (e :: es) X.env = (false, eval e X.env) :: starEach es X.env := by rfl) (hpl : (backTo pos (starEach es X.env)).any (·.1) = false := by rfl) :
    PMk5 X (.Call (.Name x p) (e :: es) [] pos) (tMkO C sp dvs ta) := by
  intro pins s σ H Q I h
  obtain ⟨nm, q, N, bs, bm, sn, sub, ab, col, dd, k0, k1, k2, k3, k5, hC, hbm⟩ := T.cls
  obtain ⟨pn, hot, hpn⟩ := hc
  refine wpAny_Call_Name_kw (ld_glob I hg hm ?_ hdb)
  refine PySem.W.callWith_K (h₀ := X.base) I.ok.mod.kin T.kC (thn (ha.run pos pins s σ H _ I h) fun us s1 ⟨vs, H1, I1, r1, hz, q1⟩ => ⟨I1.kIn, ?_⟩) he hpl
  show wpAny _ _ (call (.ref C) us) _ _ _
  obtain ⟨hp, g, dr, tk, os⟩ := s1
  have hsz : hp.objs.size ≤ hp.objs.size + 1 := Nat.le_succ _
  have hn : H1 (hp.objs.size + 1) = none := I1.hok.fresh hsz
  have hq := q1 (hp.objs.size + 1) hn
  have kk : ∀ b o, hp.get? b = some o → ((hp.push (PySem.W.kdv_tup us)).push (PySem.HandSPX.excO C hp.objs.size)).get? b = some o := fun b o e => Heap.get?_push_of_some _ (Heap.get?_push_of_some _ e)
  have hget : ((hp.push (PySem.W.kdv_tup us)).push (PySem.HandSPX.excO C hp.objs.size)).get? (hp.objs.size + 1) = some (PySem.HandSPX.excO C hp.objs.size) := by heap_get
  have I2 : Inv X pins σ (upd H1 (hp.objs.size + 1) (exo (hp.objs.size + 1) C none)) ⟨(hp.push (PySem.W.kdv_tup us)).push (PySem.HandSPX.excO C hp.objs.size), g, dr, tk, os⟩ :=
    I1.laid (t' := tk) (a := hp.objs.size + 1) (o := exo (hp.objs.size + 1) C none) (h' := (hp.push (PySem.W.kdv_tup us)).push (PySem.HandSPX.excO C hp.objs.size)) kk hsz (exo_ok hget)
  have r2 : Vals (V.ref (hp.objs.size + 1) :: vs) (Value.ref (hp.objs.size + 1) :: us) := .cons rfl r1
  have r3 : Vals (V.ref (hp.objs.size + 1) :: (vs ++ dvs)) (Value.ref (hp.objs.size + 1) :: (us ++ ds)) := .cons rfl (r1.append hd)
  have hl : (Value.ref (hp.objs.size + 1) :: us ++ ds).length = ps.length := by
    have e := r3.length
    rw [F1.len _ _ _ _ hq] at e
    exact e.symm
  have hus : us.length ≤ sizeLine := by
    rw [← Paired.length r1, sizeLine_eq]
    omega
  have b2 := hb _ (Value.ref (hp.objs.size + 1) :: us) I2.kIn hl
  have P1 := I2.pin pn (List.mem_append_left _ hpn)
  have hpin : PinOk X.stack (upd H1 (hp.objs.size + 1) (exo (hp.objs.size + 1) C none)) ⟨(hp.push (PySem.W.kdv_tup us)).push (PySem.HandSPX.excO C hp.objs.size), g, dr, tk, os⟩ pn :=
    ⟨P1.1, P1.2.1, fun hmm => (List.mem_cons.mp (I2.stkSub pn.1 hmm)).elim P1.2.2.1 P1.2.2.2.1, P1.2.2.2.2⟩
  refine wpAny_call (PySem.HandSPX.call_own F.excBase_ValueError (fun Y => PySem.HandSPX.refsVE_contains Y bm hbm) (I1.kIn _ _ hC) (PySem.W.looks_findIn I1.kIn iC) (fun self => PySem.W.bind_fn I1.kIn self tI) hus
    (codeAny_mono (F1.run _ X.stack _ _ ⟨Value.ref (hp.objs.size + 1) :: us, []⟩ (Value.ref (hp.objs.size + 1) :: (us ++ ds)) _ _ (fun _ _ _ => False) pn (hr.make C us []) ⟨hot.1, hot.2⟩ hpin (I2.env0.make C us []) b2 r3 hq) fun r s' hq' => ?_))
  cases r with
  | error er => exact hx pins σ _ _ er s' I2 hq'
  | ok fl =>
    cases fl with
    | ret u =>
      obtain ⟨v, H2, os2, bare2, un2, hok2, rv, ev, d, fs, ea, ed, hd1, q2⟩ := hq'
      subst ev
      obtain ⟨h2, g2, d2, t2, os'⟩ := s'
      obtain ⟨t0, G, J, kG, ge, hoe, na⟩ := mk_end0 (d2 := d2) (t2 := t2) I1 hsz kk un2 hok2 os2 bare2 ea ed hd1
      refine ⟨rv, ⟨hp.objs.size + 1, _, _, ⟨G, g2, d2, t2, os'⟩, _, .ref C, some d, rfl, J, kG, ge, hoe, ⟨rfl, rfl, fun vs hv => ?_⟩, rfl, rfl, na, rfl, bare2, raises_own T.exC T.tyC, q2⟩, fun a oe vs ea2 hg2 hd2 => ?_⟩
      · cases hv
        rfl
      · cases ea2
        have hg3 : h2.get? (hp.objs.size + 1) = some oe := hg2
        rw [hoe] at hg3
        cases hg3
        cases hd2
        show (4 : Nat) < 6
        decide
    | next => exact False.elim hq'
    | brk => exact False.elim hq'
    | cont => exact False.elim hq'
section
variable {X : Cx} {p : Px} {W : WX}
theorem qs_raiseHN {C f : String} {j n l : Nat} {dv : List Dx} {us : List V} {ms : MA} {e : Expr} {cpos pos : Pos} (m : inX C = true) (k : RvC X.K us dv) (hc : L2H.HotC X) (tk : L2.Takes X W) (he : L2H.PMk5 X e (tMkO (ga X.K C) (spX X.K C f j n) us (cA X.K p W ms))) : PS X (.Raise (some e) (some (.Constant .none l cpos)) pos) (cS X.K p W (sRaiseO C f j n dv ms)) := imS (i_raiseO m k) (L2H.ps_raiseHN hc tk he)
end
section
variable {K : PySem.W.Frag} {p : Px} {W : WX}
theorem exmAny_subs (hx : Xc K) {C : String} (hC : inX C = true) : ∀ Xs : List String, Xs.all inX = true → PySem.W.exmAny K (.ref (ga K C)) (Xs.map fun X : String => Value.ref (ga K X)) = some (Xs.any fun X => isSubX C X)
  | [], _ => rfl
  | X :: Xs, m => by
    rw [List.all_cons, Bool.and_eq_true] at m
    have ih := exmAny_subs hx hC Xs m.2
    rw [List.map_cons]
    unfold PySem.W.exmAny
    rw [(hx.sub hC m.1).2, ih]
    rfl
theorem i_tryR (hx : Xc K) {Xs : List String} {mb ms : MS} (m : Xs.all inX = true) : ∀ D σ H, cS K p W (sTryR mb Xs ms) D σ H → cS K p (wMt K (Xs.map fun X : String => Value.ref (ga K X)) (fun _ _ _ => cS K p W ms) W D) mb D σ H := fun D σ H ⟨w, e, s, R, E, h⟩ => by
  refine ⟨w, e, s, R, E, ?_⟩
  unfold sTryR at h
  cases hr : mb e s with
  | nx e1 s1 => rw [hr] at h; exact h
  | rt v s1 => rw [hr] at h; exact h
  | bk e1 s1 => rw [hr] at h; exact h
  | ct e1 s1 => rw [hr] at h; exact h
  | stuck => rw [hr] at h; exact h
  | exc C fs e1 s1 =>
    rw [hr] at h
    simp only at h
    intro w1 H1 σ1 dx x1 R1 E1 hC rx
    refine ⟨Xs.any fun X => isSubX C X, exmAny_subs hx hC Xs m, fun hs a ha => ?_, fun hs => ?_⟩
    · rw [if_pos hs] at h
      refine ⟨w1, e1, s1, R1, E1, ?_⟩
      cases hm : ms e1 s1 with
      | nx e2 s2 => rw [hm] at h; exact fun w2 H2 σ2 x2 R2 E2 => h w2 H2 _ (x1.trans x2) R2 E2
      | bk e2 s2 => rw [hm] at h; exact fun w2 H2 σ2 x2 R2 E2 => h w2 H2 _ (x1.trans x2) R2 E2
      | ct e2 s2 => rw [hm] at h; exact fun w2 H2 σ2 x2 R2 E2 => h w2 H2 _ (x1.trans x2) R2 E2
      | rt v s2 => rw [hm] at h; exact fun w2 H2 v2 x2 R2 r2 => h w2 H2 v2 (x1.trans x2) R2 r2
      | exc C' fs' e2 s2 => rw [hm] at h; exact fun w2 H2 σ2 dx2 x2 R2 E2 hC2 rx2 => h w2 H2 _ dx2 (x1.trans x2) R2 E2 hC2 rx2
      | stuck => rw [hm] at h; exact h.elim
    · rw [if_neg (by rw [hs]; exact nofun)] at h
      exact h w1 H1 σ1 dx x1 R1 E1 hC rx
end
section
variable {X : Cx} {p : Px} {W : WX}
theorem qs_tryR (hx : Xc X.K) {Xs : List String} {t : Expr} {body suite : List Stmt} {b₀ : Stmt} {pos pos' : Pos} {mb ms : MS} (m : Xs.all inX = true) (mo : othN.all (fun C => inX C && !(Xs.any fun X => isSubX C X)) = true)
    (hs : X.stack = X.env :: X.outer) (hf : X.env.frame = some X.env.locals) (ht : HT X t (Xs.map fun Y : String => Value.ref (ga X.K Y)))
    (hpa : ∀ hd : Option Value, PassesOwnAt (model X.prog X.w) (X.A.mark hd) X.A X.env X.xe) (tk : L2.Takes X W)
    (hb : ∀ (W : WX) (pn : List (Addr × Obj)) (xe : Value → Shared → Prop), TakesM (X.tr pn xe) W → PassesOwn (model X.prog X.w) X.A X.env xe → PSs (X.tr pn xe) body (cS X.K p W mb))
    (hsu : ∀ (a : Addr) (oe : Obj) (pn : List (Addr × Obj)), L2.Takes (L2H.suiteX X a ((a, oe) :: pn)) W → L2H.HotC (L2H.suiteX X a ((a, oe) :: pn)) → PSs (L2H.suiteX X a ((a, oe) :: pn)) (b₀ :: suite) (cS X.K p W ms)) :
    PS X (.Try body [.ExceptHandler (some t) none (b₀ :: suite) pos'] [] [] pos) (cS X.K p W (sTryR mb Xs ms)) :=
  imS (i_tryR hx m) (ps_try_M hs hf ht (fun C hC => by
    have q := List.all_eq_true.mp mo C hC
    rw [Bool.and_eq_true] at q
    rw [exmAny_subs hx q.1 Xs m]
    have q2 := q.2
    cases hq : Xs.any fun X => isSubX C X with
    | false => rfl
    | true => rw [hq] at q2; cases q2) hpa tk hb fun a oe _ _ pn _ _ tk hot => hsu a oe pn tk hot)
end
end Ps

/-! # soundness: texts cut and read as numbers; a def called by a name that holds it -/
namespace Ps
open PySem PySem.Spec PyProof.Rows L2 Vs He Pm
theorem splT_spl (S : Tx) : ∀ (l : Tx) (k : Nat) (acc : Tx), splT S k acc l = TL.spl S k acc l
  | [], k, acc => by cases k <;> rfl
  | c :: r, 0, acc => by
    unfold splT TL.spl TL.pre
    rw [splT_spl S r, splT_spl S r]
  | c :: r, k + 1, acc => by
    unfold splT TL.spl
    exact splT_spl S r k acc
theorem okT_spl (S : Tx) : ∀ (l : Tx) (k : Nat) (acc : Tx), okT l → okT acc → ∀ z ∈ splT S k acc l, okT z
  | [], k, acc, _, h2, z, hz => by
    have hz : z ∈ [acc] := by cases k <;> exact hz
    rw [List.mem_singleton.mp hz]; exact h2
  | c :: r, 0, acc, h1, h2, z, hz => by
    have hr : okT r := fun q hq => h1 q (List.mem_cons_of_mem _ hq)
    unfold splT at hz
    split at hz
    · rcases List.mem_cons.mp hz with rfl | hz
      · exact h2
      · exact okT_spl S r _ [] hr (fun q hq => by cases hq) z hz
    · exact okT_spl S r 0 (acc ++ [c]) hr (okT_app h2 fun q hq => by rw [List.mem_singleton.mp hq]; exact h1 c List.mem_cons_self) z hz
  | c :: r, k + 1, acc, h1, h2, z, hz => okT_spl S r k acc (fun q hq => h1 q (List.mem_cons_of_mem _ hq)) h2 z (by unfold splT at hz; exact hz)
theorem split_tS {a b : Tx} (hb : b ≠ []) (hk : (b.all fun c => decide (c < 256)) = true) : Txt.split (tS a) (tS b) = (splT b 0 [] a).map tS := by
  rw [splT_spl]
  exact SX.split_S hb hk
theorem starts_tS (a b : Tx) : Txt.startswith (tS a) (tS b) = (a.take b.length == b) := by
  unfold Txt.startswith Builtin.Str.subAt
  have e1 : (tS a).length = a.length := tS_len a
  have e2 : (tS b).length = b.length := tS_len b
  rw [e1, e2]
  have e3 : ((tS a).cps.extract 0 (0 + b.length) == (tS b).cps) = (a.take b.length == b) := by
    rw [Bool.eq_iff_iff, beq_iff_eq, beq_iff_eq]
    constructor
    · intro h
      have := congrArg Array.toList h
      simpa [tS] using this
    · intro h
      apply Array.toList_inj.mp
      simpa [tS] using h
  rw [e3]
  by_cases h : b.length ≤ a.length
  · simp [h]
  · have : (a.take b.length == b) = false := by
      rw [beq_eq_false_iff_ne]
      intro q
      have := congrArg List.length q
      rw [List.length_take] at this
      omega
    simp [this]
theorem figs_all {z : Tx} (h : figs z = true) : z ≠ [] ∧ NumText.AllDigits z := by
  unfold figs at h
  rw [Bool.and_eq_true] at h
  refine ⟨fun e => by rw [e] at h; exact absurd h.1 (by decide), fun c hc => ?_⟩
  have := List.all_eq_true.mp h.2 c hc
  rw [Bool.and_eq_true, decide_eq_true_eq, decide_eq_true_eq] at this
  exact this
theorem intOf_tS {z : Tx} {i : Int} (h : intOf z = some i) (hl : z.length ≤ 640) : intText? (tS z) = some i := by
  have el : (tS z).length ≤ 4300 := by rw [tS_len]; omega
  unfold intOf at h
  split at h
  · rename_i hf
    cases h
    obtain ⟨h1, h2⟩ := figs_all hf
    exact PySem.intText_digits (x := tS z) h2 h1 el
  · split at h
    · rename_i r _
      split at h
      · rename_i hf
        cases h
        obtain ⟨h1, h2⟩ := figs_all hf
        exact PySem.intText_neg (x := tS (45 :: r)) (cs := r) rfl h2 h1 el
      · cases h
    · cases h
section
variable {X : Cx}
theorem cm_intT : CallM X (.type "int") intT := by
  refine ⟨_, call_int_str, ?_⟩
  intro w H s xs ds Q E R hx h
  unfold intT at h
  split at h
  · cases hx with | cons hx l =>
    cases l
    cases hx with
    | str hz =>
    split at h
    · rename_i hl
      split at h
      · rename_i z i hi
        exact ⟨_, i, rfl, intOf_tS hi hl, by rw [tS_len]; exact hl, Fin.now h R (.int _)⟩
      · exact h.elim
    · exact h.elim
  · exact h.elim
end
section
variable {K : PySem.W.Frag} {p : Px} {W : WX}
theorem i_split {c : Bool} {ma mb : ME} : ∀ σ H Q, cE K p W (eSplit c ma mb) σ H Q → tM1 (fun x xs H Q => ∃ a b, x = .str a ∧ xs = [.str b] ∧ (b.length == 0) = false ∧ a.length + 2 ≤ sizeLine ∧ rNewStrs (Txt.split a b) H Q) (cE K p W ma) (cE K p W mb) σ H Q := fun σ H Q ⟨w, e, s, R, E, h⟩ =>
  ⟨w, e, s, R, E, Fin.bind h fun x s1 w1 H1 v x1 R1 r1 h1 => by
    split at h1
    · cases r1 with
      | str hz =>
      refine ⟨⟨_, rfl⟩, w1, e, s1, R1, E.ext x1, Fin.bind h1 fun d2 s2 w2 H2 v2 x2 R2 r2 h2 => ?_⟩
      split at h2
      · cases r2 with
        | str ht =>
        split at h2
        · rename_i z _ t hc
          obtain ⟨c1, c2, c3⟩ := hc
          refine ⟨_, _, rfl, rfl, ?_, ?_, fun q n => ?_⟩
          · rw [tS_len]
            cases t with
            | nil => exact absurd rfl c1
            | cons _ _ => rfl
          · rw [tS_len]
            have : z.length ≤ 1000000 := c3
            have e : sizeLine = 16777216 := sizeLine_eq
            omega
          · rw [split_tS c1 c2, List.map_map]
            exact Fin.newL h2 R2 (RvL.strs (okT_spl t z 0 [] hz (fun q hq => by cases hq))) n
        · exact h2.elim
      · exact h2.elim
    · exact h1.elim⟩
theorem i_starts {ma mb : ME} : ∀ σ H Q, cE K p W (eStarts ma mb) σ H Q → tM1 (fun x xs H Q => ∃ a b, x = .str a ∧ xs = [.str b] ∧ Q (.bl (Txt.startswith a b)) H) (cE K p W ma) (cE K p W mb) σ H Q := fun σ H Q ⟨w, e, s, R, E, h⟩ =>
  ⟨w, e, s, R, E, Fin.bind h fun x s1 w1 H1 v x1 R1 r1 h1 => by
    split at h1
    · cases r1 with
      | str hz =>
      refine ⟨⟨_, rfl⟩, w1, e, s1, R1, E.ext x1, Fin.bind h1 fun d2 s2 w2 H2 v2 x2 R2 r2 h2 => ?_⟩
      split at h2
      · cases r2 with
        | str ht =>
        exact ⟨_, _, rfl, rfl, by rw [starts_tS]; exact Fin.now h2 R2 (.bl _)⟩
      · exact h2.elim
    · exact h1.elim⟩
/-- what slot i holds is called -/
def tCallLS (i : Nat) (f : Addr) (sp : Sp) (us : List V) (E : L2.St → XK) (t : TA) : TE := fun σ H Q => σ[i]? = some (some (.ref f)) ∧ t σ H fun vs H1 => sp (vs ++ us) H1 Q (E σ)
theorem i_callV {x : String} {f : MF} {dv : List Dx} {us : List V} {i : Nat} {ms : MA} {rest : ME} (k : RvC K us dv) : ∀ σ H Q, cE K p W (eCallV x f dv i ms rest) σ H Q → tCallLS i (ga K x) (spM K f) us (WE W) (cA K p W ms) σ H Q ∨ cE K p W rest σ H Q := fun σ H Q ⟨w, e, s, R, E, h⟩ => by
  unfold eCallV at h
  split at h
  · rename_i y hy
    split at h
    · rename_i hxy
      subst hxy
      obtain ⟨v, hv, rv⟩ := E.sl i _ hy
      cases rv
      exact .inl ⟨hv, w, e, s, R, E, Fin.bind h fun d s1 w1 H1 v x1 R1 r1 h1 => ⟨w1, _, s1, R1, r1.app (k _ _), h1⟩⟩
    · exact .inr ⟨w, e, s, R, E, h⟩
  · exact h.elim
end
section
variable {X : Cx} {p : Px} {W : WX}
theorem pe_callLS {CX : CXT} {k i : Nat} {f : Addr} {fd : FuncData} {ps : List Str} {sp : Sp} {us : List V} {ds : List Value} {E : L2.St → XK} {x : Str} {q pos : Pos} {e : Expr} {es : List Expr} {t : TA} (F : FnOk X.prog X.w X.K X.mg X.base CX k f fd ps sp) (hr : Room k X.A) (hN : X.N[i]? = some x) (hv : Vis X.env.scope x)
    (hk : PySem.W.keepIn X.K (.ref f) = true) (hb : Binds X.K fd ps ds) (hd : Vals us ds) (hx : ∀ σ, PassesAt CX X σ (E σ)) (ha : PA X (e :: es) t)
    (hdb : (x == ("__debug__" : Str)) = false := by decide) (hcd : (x == ("__classdict__" : Str)) = false := by decide)
    (he : starEach (e :: es) X.env = (false, eval e X.env) :: starEach es X.env := by rfl) (hpl : (backTo pos (starEach es X.env)).any (·.1) = false := by rfl) : PE X (.Call (.Name x q) (e :: es) [] pos) (tCallLS i f sp us E t) := by
  refine ⟨fun pins s σ H Q I h => ?_⟩
  obtain ⟨hs, ht⟩ := h
  refine wpAny_Call_Name_kw (thn ((pe_var (pos := q) hN hv hdb hcd).run pins s σ H (fun v H1 => v = .ref f ∧ H1 = H) I ⟨.ref f, hs, rfl, rfl⟩) fun u s1 ⟨v, H1, I1, r1, q1⟩ => ?_)
  obtain ⟨rfl, rfl⟩ := q1
  cases r1
  refine PySem.W.callWith_K (h₀ := X.base) I.ok.mod.kin hk (thn (ha.run pos pins s1 σ _ _ I1 ht) fun us s2 ⟨vs, H2, I2, r, q⟩ => ⟨I2.kIn, ?_⟩) he hpl
  exact run_fnSD F hr hb hd (hx σ) I2 r q
theorem qe_callV {x : String} {f : MF} {dv : List Dx} {us : List V} {i : Nat} {ms : MA} {rest : ME} {e : Expr} (k : RvC X.K us dv) (h1 : PE X e (tCallLS i (ga X.K x) (spM X.K f) us (WE W) (cA X.K p W ms))) (h2 : PE X e (cE X.K p W rest)) : PE X e (cE X.K p W (eCallV x f dv i ms rest)) :=
  ⟨fun pins s σ H Q I h => (i_callV k σ H Q h).elim (h1.run pins s σ H Q I) (h2.run pins s σ H Q I)⟩
theorem qe_none {e : Expr} : PE X e (cE X.K p W eNone) := ⟨fun pins s σ H Q I ⟨w, e, s', R, E, h⟩ => h.elim⟩
end
end Ps
namespace Pm
/-! ## figures -/
theorem txI_num (n : Nat) : txI (n : Int) = TL.numL n := by
  have e := TL.tl_num n
  rw [← e]
  unfold txI
  show tx (toString ((n : Nat) : Int)) = (PySem.Str.ofString (toString ((n : Nat) : Int))).cps.toList
  have h := Ps.tS_tx (toString ((n : Nat) : Int))
  rw [h]
  simp [Ps.tS]
theorem numT_val (z : Tx) : numT z = PySem.NumText.digitsVal z := rfl
end Pm

/-! # soundness: texts replaced (a token must be out), upper -/
namespace Ps
open PySem PySem.Spec PyProof.Rows L2 Vs He Pm
theorem glued_one (z x : Str) : Builtin.Str.glued z [x] = x := by rw [StrLaws.glued_eq_join]; rfl
theorem repl_tS {x y z : Tx} (hb : y ≠ []) (hk : (y.all fun c => decide (c < 256)) = true) : Txt.replace (tS x) (tS y) (tS z) = tS (joinT z (splT y 0 [] x)) := by
  have e := split_tS (a := x) hb hk
  have j := joinT_eq z (splT y 0 [] x)
  rw [← e] at j
  rw [← j]
  have hy : ((tS y).length == 0) = false := by
    rw [tS_len]
    cases y with
    | nil => exact absurd rfl hb
    | cons _ _ => rfl
  have kd := TL.kind_ok (x := tS x) (SX.all256 (b := y) hk)
  unfold Txt.replace
  rw [hy, Bool.false_and, Bool.or_false]
  show _ = Builtin.Str.glued (tS z) (Txt.split (tS x) (tS y))
  cases he : (Builtin.Str.occurrences (tS x) (tS y) 0 (tS x).length ((tS x).length + 1)).isEmpty
  · rw [if_neg Bool.false_ne_true]
    have hl : ¬ (tS x).length < (tS y).length := by
      intro hlt
      obtain ⟨f, h⟩ := StrLaws.occ_chain (tS x) (tS y) ((tS x).length + 1)
      cases ho : Builtin.Str.occurrences (tS x) (tS y) 0 (tS x).length ((tS x).length + 1) with
      | nil => rw [ho] at he; exact absurd he (by simp)
      | cons i r =>
        rw [ho] at h
        have := h.2.1.1
        omega
    unfold Txt.split
    have hc : ¬ (decide ((tS x).length < (tS y).length) || decide (Builtin.Str.strKind (tS x) < Builtin.Str.strKind (tS y))) = true := by
      rw [Bool.or_eq_true, decide_eq_true_eq, decide_eq_true_eq]
      exact fun q => q.elim hl kd
    rw [if_neg hc, he, if_neg Bool.false_ne_true]
  · rw [if_pos rfl]
    unfold Txt.split
    split
    · exact (glued_one _ _).symm
    · exact (glued_one _ _).symm
theorem up1_eq : PyProof.Rows.up1 = Pm.up1 := rfl
theorem upper_tS {z : Tx} (h : (z.all fun c => decide (c < 128)) = true) : Txt.upper (tS z) = tS (z.map Pm.up1) := by
  have := SX.upper_S (a := z) h
  rw [up1_eq] at this
  exact this
theorem okT_up {z : Tx} (h : okT z) : okT (z.map Pm.up1) := fun c hc => by
  obtain ⟨q, hq, rfl⟩ := List.mem_map.mp hc
  have := h q hq
  unfold Pm.up1
  split <;> omega
/-! ## tokens -/
def PEG (X : Cx) (e : Expr) (t : TE) : Prop :=
  ∀ (pins : List (Addr × Obj)) (s : Shared) (σ : L2.St) (H : Hp) (Q : VK), Inv X pins σ H s → t σ H Q → wpAny (model X.prog X.w) X.A (eval e X.env) (fun v s1 => 1 ≤ s1.toks ∧ EP X pins σ Q v s1) X.xe s
def PAG (X : Cx) (es : List Expr) (t : TA) : Prop :=
  ∀ (pos : Pos) (pins : List (Addr × Obj)) (s : Shared) (σ : L2.St) (H : Hp) (Q : List V → Hp → Prop), Inv X pins σ H s → t σ H Q → wpAny (model X.prog X.w) X.A (spliced (backTo pos (starEach es X.env))) (fun v s1 => 1 ≤ s1.toks ∧ AP X pins σ Q v s1) X.xe s
def PSG (X : Cx) (st : Stmt) (t : TS) : Prop :=
  ∀ (pins : List (Addr × Obj)) (s : Shared) (σ : L2.St) (H : Hp) (D : Ends), Inv X pins σ H s → t D σ H → wpAny (model X.prog X.w) X.A (exec st X.env) (fun f s1 => (f = .next → 1 ≤ s1.toks) ∧ SP X pins D f s1) X.xe s
section
variable {X : Cx} {e f : Expr} {es : List Expr} {te tf u : TE} {ta : TA} {pos : Pos}
theorem imET (i : ∀ σ H Q, u σ H Q → te σ H Q) (h : PET X e te) : PET X e u := fun pins s σ H Q h0 I q => h pins s σ H Q h0 I (i σ H Q q)
theorem imEG (i : ∀ σ H Q, u σ H Q → te σ H Q) (h : PEG X e te) : PEG X e u := fun pins s σ H Q I q => h pins s σ H Q I (i σ H Q q)
theorem imAT {tb : TA} (i : ∀ σ H Q, tb σ H Q → ta σ H Q) (h : PAT X es ta) : PAT X es tb := fun pos pins s σ H Q h0 I q => h pos pins s σ H Q h0 I (i σ H Q q)
theorem imAG {tb : TA} (i : ∀ σ H Q, tb σ H Q → ta σ H Q) (h : PAG X es ta) : PAG X es tb := fun pos pins s σ H Q I q => h pos pins s σ H Q I (i σ H Q q)
theorem imST {st : Stmt} {t v : TS} (i : ∀ D σ H, v D σ H → t D σ H) (h : PST X st t) : PST X st v := fun pins s σ H D h0 I q => h pins s σ H D h0 I (i D σ H q)
theorem imSG {st : Stmt} {t v : TS} (i : ∀ D σ H, v D σ H → t D σ H) (h : PSG X st t) : PSG X st v := fun pins s σ H D I q => h pins s σ H D I (i D σ H q)
theorem imSsT {st : List Stmt} {t v : TS} (i : ∀ D σ H, v D σ H → t D σ H) (h : PSsT X st t) : PSsT X st v := fun pins s σ H D h0 I q => h pins s σ H D h0 I (i D σ H q)
theorem pet_of (h : PE X e te) : PET X e te := fun pins s σ H Q _ I q => h.run pins s σ H Q I q
theorem pat_of (h : PA X es ta) : PAT X es ta := fun pos pins s σ H Q _ I q => h.run pos pins s σ H Q I q
theorem peg_str {x : Str} {j : Nat} {p : Pos} : PEG X (.Constant (.str x) j p) (tC (.str x)) := fun pins s σ H Q I h =>
  Calls.Constant_str ⟨Nat.le_add_left .., .str x, H, I.tok _, ⟨s.toks, rfl⟩, h⟩
theorem peg_opL {op : Operator} {r : R2} (ho : OpR X (binaryOp op) r) (ha : PEG X e te) (hb : PE X f tf) : PEG X (.BinOp e op f pos) (tOp r te tf) := by
  intro pins s σ H Q I h
  refine wpAny_BinOp (thn (ha pins s σ H _ I h) fun v s1 q => ?_)
  obtain ⟨h1, x, H1, I1, r1, q1⟩ := q
  refine wpAny_mono (PySem.wpAny_toks (hb.run pins s1 σ H1 _ I1 q1)) (fun v2 s2 q => ?_) fun _ _ z => z.2
  obtain ⟨hk, y, H2, I2, r2, q2⟩ := q
  refine wpAny_mono (PySem.wpAny_toks (ho pins s2 σ H2 x y v v2 Q I2 r1 r2 q2)) (fun v3 s3 q => ?_) fun _ _ z => z.2
  exact ⟨Nat.le_trans (Nat.le_trans h1 hk) q.1, q.2⟩
theorem peg_opR {op : Operator} {r : R2} (ho : OpR X (binaryOp op) r) (ha : PE X e te) (hb : PEG X f tf) : PEG X (.BinOp e op f pos) (tOp r te tf) := by
  intro pins s σ H Q I h
  refine wpAny_BinOp (thn (ha.run pins s σ H _ I h) fun v s1 q => ?_)
  obtain ⟨x, H1, I1, r1, q1⟩ := q
  refine thn (hb pins s1 σ H1 _ I1 q1) fun v2 s2 q => ?_
  obtain ⟨hk, y, H2, I2, r2, q2⟩ := q
  refine wpAny_mono (PySem.wpAny_toks (ho pins s2 σ H2 x y v v2 Q I2 r1 r2 q2)) (fun v3 s3 q => ?_) fun _ _ z => z.2
  exact ⟨Nat.le_trans hk q.1, q.2⟩
theorem pag_here (ha : PEG X e te) (hr : PA X es ta) (hs : starEach (e :: es) X.env = (false, eval e X.env) :: starEach es X.env := by rfl) : PAG X (e :: es) (tCons te ta) := by
  intro pos pins s σ H Q I h
  rw [hs]
  show wpAny _ _ (spliced ((false, eval e X.env) :: backTo pos (starEach es X.env))) _ _ s
  refine Calls.spliced_cons (thn (ha pins s σ H _ I h) fun v s1 q => ?_)
  obtain ⟨h1, x, H1, I1, r1, q1⟩ := q
  refine wpAny_mono (PySem.wpAny_toks (hr.run pos pins s1 σ H1 _ I1 q1)) (fun us s2 q => ?_) fun _ _ z => z.2
  obtain ⟨hk, xs, H2, I2, r2, q2⟩ := q
  exact ⟨Nat.le_trans h1 hk, x :: xs, H2, I2, .cons r1 r2, q2⟩
theorem pag_skip (ha : PE X e te) (hr : PAG X es ta) (hs : starEach (e :: es) X.env = (false, eval e X.env) :: starEach es X.env := by rfl) : PAG X (e :: es) (tCons te ta) := by
  intro pos pins s σ H Q I h
  rw [hs]
  show wpAny _ _ (spliced ((false, eval e X.env) :: backTo pos (starEach es X.env))) _ _ s
  refine Calls.spliced_cons (thn (ha.run pins s σ H _ I h) fun v s1 q => ?_)
  obtain ⟨x, H1, I1, r1, q1⟩ := q
  refine thn (hr pos pins s1 σ H1 _ I1 q1) fun us s2 q => ?_
  obtain ⟨hk, xs, H2, I2, r2, q2⟩ := q
  exact ⟨hk, x :: xs, H2, I2, .cons r1 r2, q2⟩
/-- behind an item that gives one a token is out -/
theorem pa_tok (ha : PEG X e te) (hr : PAT X es ta) (hs : starEach (e :: es) X.env = (false, eval e X.env) :: starEach es X.env := by rfl) : PA X (e :: es) (tCons te ta) := by
  refine ⟨fun pos pins s σ H Q I h => ?_⟩
  rw [hs]
  show wpAny _ _ (spliced ((false, eval e X.env) :: backTo pos (starEach es X.env))) _ _ s
  refine Calls.spliced_cons (thn (ha pins s σ H _ I h) fun v s1 q => ?_)
  obtain ⟨h1, x, H1, I1, r1, q1⟩ := q
  exact thn (hr pos pins s1 σ H1 _ h1 I1 q1) fun us s2 ⟨xs, H2, I2, r2, q2⟩ => ⟨x :: xs, H2, I2, .cons r1 r2, q2⟩
theorem peg_lst (h : PAG X es ta) : PEG X (.List es pos) (tLst ta) := by
  intro pins s σ H Q I hq
  refine wpAny_List_spliced (thn (h pos pins s σ H _ I hq) fun us s1 ⟨hk, xs, H1, I1, r, z, q⟩ => ⟨by rw [← r.length]; exact z, ?_⟩)
  have hf : H1 s1.heap.objs.size = none := I1.hok.fresh (Nat.le_refl _)
  refine ⟨hk, .ref s1.heap.objs.size, upd H1 s1.heap.objs.size (.lst xs), I1.laid (t' := s1.toks) (fun b u e => Heap.get?_push_of_some _ e) (Nat.le_refl _) ?_, rfl, q _ hf⟩
  exact ⟨z, us, 0, r, Heap.get?_push_size _ rfl⟩
theorem pst_set {i : Nat} {x : Str} {pos' : Pos} (hN : X.N.Nodup) (hi : X.N[i]? = some x) (hx : Loc X.env.scope x) (he : PET X e te) (hs : swapsWith e (some (.Name x pos')) pos.line X.env = pure false := by rfl) (hf : X.fn x = true ∨ X.env.scope.names.lookup x = some .local := by first | exact .inl rfl | exact .inr rfl | assumption) :
    PST X (.Assign [.Name x pos'] e pos) (tAsg te (gName i)) := by
  intro pins s σ H D h0 I h
  refine wpAny_Assign_Name (thn (he pins s σ H _ h0 I h) fun v s1 ⟨y, H1, I1, r1, q1⟩ => ?_) hs
  exact store_ok I1 hN hi hx r1 (fun s2 I2 => ⟨_, H1, I2, q1⟩) hf
theorem psg_set {i : Nat} {x : Str} {pos' : Pos} (hN : X.N.Nodup) (hi : X.N[i]? = some x) (hx : Loc X.env.scope x) (he : PEG X e te) (hs : swapsWith e (some (.Name x pos')) pos.line X.env = pure false := by rfl) (hf : X.fn x = true ∨ X.env.scope.names.lookup x = some .local := by first | exact .inl rfl | exact .inr rfl | assumption) :
    PSG X (.Assign [.Name x pos'] e pos) (tAsg te (gName i)) := by
  intro pins s σ H D I h
  refine wpAny_Assign_Name (thn (he pins s σ H _ I h) fun v s1 ⟨hk, y, H1, I1, r1, q1⟩ => ?_) hs
  refine wpAny_mono (PySem.wpAny_toks (store_ok (Q := fun _ s2 => Inv X pins (σ.set i (some y)) H1 s2) I1 hN hi hx r1 (fun s2 I2 => I2) hf)) (fun _ s2 q => ?_) fun _ _ z => z.2
  exact ⟨fun _ => Nat.le_trans hk q.1, _, H1, q.2, q1⟩
theorem pss_tok {st : Stmt} {rest : List Stmt} {t v : TS} (h1 : PSG X st t) (h2 : PSsT X rest v) : PSs X (st :: rest) (tSeq t v) := by
  refine ⟨fun pins s σ H D I h => ?_⟩
  refine wpAny_execs_cons (thn (h1 pins s σ H { D with nx := v D } I h) fun f s1 q => ?_)
  obtain ⟨hk, q⟩ := q
  cases f with
  | next =>
    obtain ⟨σ', H', I', q⟩ := q
    exact h2 pins s1 σ' H' D (hk rfl) I' q
  | ret v => exact q
  | brk => exact q
  | cont => exact q
theorem pst_of {st : Stmt} {t : TS} (h : PS X st t) : PST X st t := fun pins s σ H D _ I q => h.run pins s σ H D I q
end
section
variable {X : Cx} {p : Px} {W : WX}
theorem qet_op {op : Operator} {f : O2} {a b : Expr} {pos : Pos} {ma mb : ME} (ho : OpM X (binaryOp op) f) (ha : PET X a (cE X.K p W ma)) (hb : PET X b (cE X.K p W mb)) : PET X (.BinOp a op b pos) (cE X.K p W (eOp f ma mb)) := let ⟨_, h, s⟩ := ho; imET (i_op s) (CwR.pet_op h ha hb)
theorem qeg_opL {op : Operator} {f : O2} {a b : Expr} {pos : Pos} {ma mb : ME} (ho : OpM X (binaryOp op) f) (ha : PEG X a (cE X.K p W ma)) (hb : PE X b (cE X.K p W mb)) : PEG X (.BinOp a op b pos) (cE X.K p W (eOp f ma mb)) := let ⟨_, h, s⟩ := ho; imEG (i_op s) (peg_opL h ha hb)
theorem qeg_opR {op : Operator} {f : O2} {a b : Expr} {pos : Pos} {ma mb : ME} (ho : OpM X (binaryOp op) f) (ha : PE X a (cE X.K p W ma)) (hb : PEG X b (cE X.K p W mb)) : PEG X (.BinOp a op b pos) (cE X.K p W (eOp f ma mb)) := let ⟨_, h, s⟩ := ho; imEG (i_op s) (peg_opR h ha hb)
end
section
variable {K : PySem.W.Frag} {p : Px} {W : WX}
theorem i_repl {ma : ME} {y z : String} (hy : (tx y).all (fun c => decide (c < 256)) = true) (hb : tx y ≠ []) (hl : (tx z).length ≤ 10) : ∀ σ H Q, cE K p W (eRepl ma (tx y) (tx z)) σ H Q → CwR.tReplC (cE K p W ma) (Str.ofString y) (Str.ofString z) σ H Q := fun σ H Q ⟨w, e, s, R, E, h⟩ =>
  ⟨w, e, s, R, E, Fin.bind h fun x s1 w1 H1 v x1 R1 r1 h1 => by
    split at h1
    · cases r1 with
      | str hz =>
      split at h1
      · rename_i t hc
        refine ⟨_, rfl, ?_, ?_⟩
        · rw [tS_len, tS_tx, tS_len]
          have hc : t.length ≤ 1000000 := hc
          have : (t.length + 1) * (tx z).length ≤ (t.length + 1) * 10 := Nat.mul_le_mul_left _ hl
          omega
        · rw [tS_tx, tS_tx, repl_tS hb hy]
          exact Fin.now h1 R1 (.str (okT_join (okT_tx z) (okT_spl _ _ 0 [] hz (fun q hq => by cases hq))))
      · exact h1.elim
    · exact h1.elim⟩
theorem i_up {ma : ME} : ∀ σ H Q, cE K p W (eUp ma) σ H Q → tM0 (fun x xs H Q => ∃ a, x = .str a ∧ xs = [] ∧ a.length ≤ 5592405 ∧ Q (.str (Txt.upper a)) H) (cE K p W ma) σ H Q := fun σ H Q ⟨w, e, s, R, E, h⟩ =>
  ⟨w, e, s, R, E, Fin.bind h fun x s1 w1 H1 v x1 R1 r1 h1 => by
    split at h1
    · cases r1 with
      | str hz =>
      split at h1
      · rename_i t hc
        refine ⟨⟨_, rfl⟩, _, rfl, rfl, ?_, ?_⟩
        · rw [tS_len]
          have hc : t.length ≤ 1000000 := hc.1
          omega
        · rw [upper_tS hc.2]
          exact Fin.now h1 R1 (.str (okT_up hz))
      · exact h1.elim
    · exact h1.elim⟩
end
end Ps

/-! # soundness: text.partition(text) -/
namespace Ps
open PySem PySem.Spec PyProof.Rows L2 Vs He Pm
theorem parT_par (S : Tx) : ∀ (l acc : Tx), parT S acc l = TL.par S acc l
  | [], _ => rfl
  | c :: r, acc => by
    unfold parT TL.par TL.pre
    rw [parT_par S r]
theorem parT_ok (S : Tx) : ∀ (l acc : Tx), okT l → okT acc → ∀ p q, parT S acc l = some (p, q) → okT p ∧ okT q
  | [], _, _, _, _, _, h => by cases h
  | c :: r, acc, h1, h2, p, q, h => by
    unfold parT at h
    split at h
    · cases h
      exact ⟨h2, fun x hx => h1 x (List.mem_of_mem_drop hx)⟩
    · exact parT_ok S r _ (fun x hx => h1 x (List.mem_cons_of_mem _ hx)) (okT_app h2 fun x hx => by rw [List.mem_singleton.mp hx]; exact h1 c List.mem_cons_self) p q h
theorem par_tS {a b : Tx} (hb : b ≠ []) : Txt.partition (tS a) (tS b) = (match parT b [] a with
    | some (x, y) => (tS x, tS b, tS y)
    | none => (tS a, tS [], tS [])) := by
  cases h : parT b [] a with
  | none =>
    rw [parT_par] at h
    exact SX.partition_none hb h
  | some p =>
    obtain ⟨x, y⟩ := p
    rw [parT_par] at h
    exact SX.partition_some hb h
section
variable {K : PySem.W.Frag} {p : Px} {W : WX}
theorem i_part {ma mb : ME} : ∀ σ H Q, cE K p W (ePart ma mb) σ H Q → tM1 (fun x xs H Q => ∃ a b, x = .str a ∧ xs = [.str b] ∧ (b.length == 0) = false ∧ a.length ≤ sizeLine ∧
      ∀ p, H p = none → Q (.ref p) (upd H p (.tup [.str (Txt.partition a b).1, .str (Txt.partition a b).2.1, .str (Txt.partition a b).2.2]))) (cE K p W ma) (cE K p W mb) σ H Q := fun σ H Q ⟨w, e, s, R, E, h⟩ =>
  ⟨w, e, s, R, E, Fin.bind h fun x s1 w1 H1 v x1 R1 r1 h1 => by
    split at h1
    · cases r1 with
      | str hz =>
      refine ⟨⟨_, rfl⟩, w1, e, s1, R1, E.ext x1, Fin.bind h1 fun d2 s2 w2 H2 v2 x2 R2 r2 h2 => ?_⟩
      split at h2
      · cases r2 with
        | str ht =>
        split at h2
        · rename_i z _ t hc
          obtain ⟨c1, c3⟩ := hc
          refine ⟨_, _, rfl, rfl, ?_, ?_, fun q n => ?_⟩
          · rw [tS_len]
            cases t with
            | nil => exact absurd rfl c1
            | cons _ _ => rfl
          · rw [tS_len]
            have : z.length ≤ 1000000 := c3
            have e : sizeLine = 16777216 := sizeLine_eq
            omega
          · rw [par_tS c1]
            cases hp : parT t [] z with
            | none =>
              rw [hp] at h2
              exact Fin.treeT h2 R2 (.cons (.str hz) (.cons (.str (fun c hc => by cases hc)) (.cons (.str (fun c hc => by cases hc)) .nil))) n
            | some pq =>
              obtain ⟨x, y⟩ := pq
              rw [hp] at h2
              obtain ⟨k1, k2⟩ := parT_ok t z [] hz (fun c hc => by cases hc) x y hp
              exact Fin.treeT h2 R2 (.cons (.str k1) (.cons (.str ht) (.cons (.str k2) .nil))) n
        · exact h2.elim
      · exact h2.elim
    · exact h1.elim⟩
end
end Ps
namespace Ps
open PySem PySem.Spec PyProof.Rows L2 Vs He Pm
/-! # a tuple of texts that a module bears -/
def strsB : List Value → List String → Bool
  | [], [] => true
  | .str y _ :: vs, z :: zs => decide (y = Str.ofString z) && strsB vs zs
  | _, _ => false
def tupB (K : PySem.W.Frag) (a : Addr) (zs : List String) : Bool := match K.lookup a with
  | some o => decide (o.cls = .type "tuple") && (match o.data with
    | .seq its _ => Nat.ble its.size 1000 && strsB its.toList zs
    | _ => false)
  | none => false
theorem strsB_ok (zs : List String) : ∀ {vs : List Value}, strsB vs zs = true → Vals (zs.map fun z => V.str (Str.ofString z)) vs := by
  induction zs with
  | nil =>
    intro vs h
    cases vs with
    | nil => exact .nil
    | cons v vs => cases v <;> cases h
  | cons z zs ih =>
    intro vs h
    cases vs with
    | nil => cases h
    | cons v vs =>
      cases v with
      | str y t =>
        unfold strsB at h
        rw [Bool.and_eq_true, decide_eq_true_eq] at h
        obtain ⟨rfl, h⟩ := h
        exact .cons ⟨t, rfl⟩ (ih h)
      | _ => cases h
theorem tupB_ok {K : PySem.W.Frag} {H : Hp} {a : Addr} {zs : List String} (h : tupB K a zs = true) : SqT K H a (zs.map fun z => V.str (Str.ofString z)) := by
  unfold tupB at h
  split at h
  · rename_i o ho
    rw [Bool.and_eq_true, decide_eq_true_eq] at h
    obtain ⟨h1, h⟩ := h
    split at h
    · rename_i its n hd
      rw [Bool.and_eq_true] at h
      have hl := Nat.le_of_ble_eq_true h.1
      exact .inr ⟨o, its, n, ho, h1, hd, by rw [sizeLine_eq]; omega, strsB_ok zs h.2⟩
    · cases h
  · cases h
section
variable {K : PySem.W.Frag} {p : Px} {W : WX}
theorem i_tupC {x : String} (zs : List String) (h : tupB K (ga K x) zs = true) : ∀ σ H Q, cE K p W (eC (.tup (zs.map fun z => Dx.str (tx z)))) σ H Q → tC (.ref (ga K x)) σ H Q := i_c fun r G => by
  refine .tup (tupB_ok h) ?_
  clear h
  induction zs with
  | nil => exact .nil
  | cons z zs ih => exact .cons (by show Rv K r G (V.str (Str.ofString z)) (Dx.str (tx z)); rw [tS_tx]; exact .str (okT_tx z)) ih
end
end Ps

/-! # soundness: tries within tries: an exception that bears a chain of contexts -/
namespace Ps
open PySem PySem.Spec PyProof.Rows HotX
/-- the chain of contexts from x on: n further ones, then None -/
def Chn (h : Heap) : Nat → Addr → Prop
  | 0, x => ∃ (o : Obj) (vs : Array Value), h.get? x = some o ∧ o.data = .fields vs ∧ vs[2]? = some .none
  | n + 1, x => ∃ (o : Obj) (vs : Array Value) (z : Addr), h.get? x = some o ∧ o.data = .fields vs ∧ vs[2]? = some (.ref z) ∧ Chn h n z
theorem Chn.there {h : Heap} : ∀ {n : Nat} {x : Addr}, Chn h n x → ∃ (o : Obj) (vs : Array Value), h.get? x = some o ∧ o.data = .fields vs
  | 0, _, ⟨o, vs, h1, d1, _⟩ => ⟨o, vs, h1, d1⟩
  | _ + 1, _, ⟨o, vs, _, h1, d1, _⟩ => ⟨o, vs, h1, d1⟩
theorem Chn.uniq {h : Heap} : ∀ {n m : Nat} {x : Addr}, Chn h n x → Chn h m x → n = m
  | 0, 0, _, _, _ => rfl
  | 0, m + 1, x, ⟨o, vs, h1, d1, c1⟩, ⟨o', vs', z, h2, d2, c2, _⟩ => by
    rw [h1] at h2; cases h2
    rw [d1] at d2; cases d2
    rw [c1] at c2; cases c2
  | n + 1, 0, x, ⟨o', vs', z, h2, d2, c2, _⟩, ⟨o, vs, h1, d1, c1⟩ => by
    rw [h1] at h2; cases h2
    rw [d1] at d2; cases d2
    rw [c1] at c2; cases c2
  | n + 1, m + 1, x, ⟨o, vs, z, h1, d1, c1, r1⟩, ⟨o', vs', z', h2, d2, c2, r2⟩ => by
    rw [h1] at h2; cases h2
    rw [d1] at d2; cases d2
    rw [c1] at c2; cases c2
    rw [Chn.uniq r1 r2]
section
variable {prog : Program} {w : World} {A : Around} {E : Value → Shared → Prop} {s : Shared}
theorem ref_beq {a b : Addr} (h : a ≠ b) : (Value.ref a == Value.ref b) = false := by
  simp [h]
theorem unchain_go {a : Addr} {h0 : Heap} {R : Result → Shared → Prop} (na : h0.get? a = none) (k : ∀ b o, h0.get? b = some o → s.heap.get? b = some o) (q : R (.ok (.ret .none)) s) :
    ∀ (n m : Nat) (x sl : Addr) (t : Bool), n ≤ m → (t = true → n < m) → Chn h0 n x → Chn h0 m sl → codeAny (model prog w) A (.builtin "proto.unchain" ⟨[.ref a, .ref x, .ref sl, .bool t], []⟩) R s := by
  intro n
  induction n with
  | zero =>
    rintro m x sl t _ _ ⟨o, vs, h1, d1, c1⟩ _
    refine codeAny_builtin HotX.entry_unchain ?_
    show wpAny _ _ (field (.ref x) 2 >>= _) _ _ s
    refine wpAny_bind (wpAny_field (k _ _ h1) d1 c1 ?_)
    rw [if_pos (show (Value.none == Value.none) = true from rfl)]
    first
    | exact wpAny_bind (wpAny_pure (wpAny_pure q))
    | exact wpAny_pure q
  | succ n ih =>
    rintro m x sl t hm ht ⟨o, vs, z, h1, d1, c1, hz⟩ hsl
    obtain ⟨oz, us, hz1, _⟩ := hz.there
    have nza : z ≠ a := fun e => by rw [e, na] at hz1; cases hz1
    have nzs : z ≠ sl := fun e => by
      rw [e] at hz
      have := hz.uniq hsl
      omega
    refine codeAny_builtin HotX.entry_unchain ?_
    show wpAny _ _ (field (.ref x) 2 >>= _) _ _ s
    refine wpAny_bind (wpAny_field (k _ _ h1) d1 c1 ?_)
    rw [if_neg (show ¬ ((Value.ref z == Value.none) = true) from by simp)]
    show wpAny _ _ (if (Value.ref z == Value.ref a) = true then _ else _) _ _ _
    rw [if_neg (show ¬ ((Value.ref z == Value.ref a) = true) from by rw [ref_beq nza]; exact Bool.false_ne_true)]
    show wpAny _ _ (if (Value.ref z == Value.ref sl) = true then _ else _) _ _ _
    rw [if_neg (show ¬ ((Value.ref z == Value.ref sl) = true) from by rw [ref_beq nzs]; exact Bool.false_ne_true)]
    cases t with
    | false =>
      refine wpAny_pure ⟨plainId_quiet (by decide +kernel) _, ?_⟩
      exact ih m z sl true (by omega) (fun _ => by omega) hz hsl
    | true =>
      have hlt := ht rfl
      obtain ⟨m', rfl⟩ : ∃ i, m = i + 1 := ⟨m - 1, by omega⟩
      obtain ⟨o', vs', z', h2, d2, c2, hz'⟩ := hsl
      show wpAny _ _ (field (.ref sl) 2 >>= _) _ _ _
      refine wpAny_bind (wpAny_field (k _ _ h2) d2 c2 ?_)
      refine wpAny_pure ⟨plainId_quiet (by decide +kernel) _, ?_⟩
      exact ih m' z z' false (by omega) (fun e => by cases e) hz hz'
/-- the handled exception y stands (in a part of the heap where a isn't) with its chain of contexts -/
def ChainAt (A : Around) (y a : Addr) (h : Heap) : Prop := A.handled = some (.ref y) ∧ ∃ (h0 : Heap) (n : Nat), h0.get? a = none ∧ (∀ b o, h0.get? b = some o → h.get? b = some o) ∧ Chn h0 n y
theorem raiseNew_chain {α : Type} {a y : Addr} {oa : Obj} {vs : Array Value} {Q : α → Shared → Prop} (hot : ChainAt A y a s.heap) (hne : y ≠ a) (ha : s.heap.get? a = some oa) (da : oa.data = .fields vs) (hi : 2 < vs.size)
    (hE : E (.ref a) { s with heap := s.heap.update a (Obj.mapFields (·.setIfInBounds 2 (.ref y))) }) : wpAny (model prog w) A (raiseNew (.ref a) : Sem α) Q E s := by
  obtain ⟨hh, h0, n, na, kk, hc⟩ := hot
  have un : ∀ {Q' : Value → Shared → Prop}, Q' .none s → wpAny (model prog w) A (holding [Value.ref a] (runValue (.builtin "proto.unchain" ⟨[.ref a, .ref y, .ref y, .bool false], []⟩))) Q' E s := fun q =>
    wpAny_holding (wpAny_runValue (unchain_go na kk q n n y y false (Nat.le_refl _) (fun e => by cases e) hc hc))
  unfold raiseNew
  refine wpAny_bind (wpAny_handled ?_)
  rw [hh]
  have hb : (Value.ref y != Value.ref a) = true := ref_bne hne
  first
  | (show wpAny _ _ (if (Value.ref y != Value.ref a) = true then _ else _) _ _ _
     rw [if_pos hb]
     first
     | exact wpAny_bind (un (wpAny_bind (chained ha da hi (wpAny_throw hE))))
     | exact wpAny_bind (wpAny_bind (un (chained ha da hi (wpAny_throw hE)))))
  | (refine wpAny_bind ?_
     show wpAny _ _ (if (Value.ref y != Value.ref a) = true then _ else _) _ _ _
     rw [if_pos hb]
     exact wpAny_bind (un (chained ha da hi (wpAny_throw hE))))
theorem raiseFrom_chain {env : Env} {x c : Sem Value} {Q : Flow → Shared → Prop} {y : Addr}
    (hcs : ∀ (s : Shared) (Q' : Value → Shared → Prop), Q' .none s → wpAny (model prog w) A c Q' E s)
    (h : wpAny (model prog w) A x (fun v t => ∃ a oa vs cls, v = .ref a ∧ t.heap.get? a = some oa ∧ oa.cls = cls ∧ oa.data = .fields vs ∧ vs[1]? = some .none ∧ 4 < vs.size ∧ y ≠ a ∧ ChainAt A y a t.heap ∧
      PySem.W.Looks (model prog w) t.heap (isSubtype cls (.type "BaseException")) true ∧ PySem.W.Looks (model prog w) (noneFrom t.heap a) (typeOf cls) (.type "type") ∧
      E (.ref a) { t with heap := (noneFrom t.heap a).update a (Obj.mapFields (·.setIfInBounds 2 (.ref y))) }) E s) :
    wpAny (model prog w) A (raiseStmt env (some x) (some c)) Q E s := by
  unfold raiseStmt
  dsimp only
  refine wpAny_bind (wpAny_mono h (fun v t ht => ?_) fun _ _ x => x)
  obtain ⟨a, oa, vs, cls, rfl, ha, hcls, hd, h1, hi, hne, hot, L1, L3, hE⟩ := ht
  have LT : PySem.W.Looks (model prog w) t.heap (typeOf (.ref a)) cls := fun A Q E s k q => wpAny_typeOf_ref (k _ _ ha) (by rw [hcls]; exact q)
  have LI : PySem.W.Looks (model prog w) t.heap (isInstance (.ref a) (.type "BaseException")) true := LT.andThen L1
  have notT : ∀ {Q' : Bool → Shared → Prop}, Q' false t → wpAny (model prog w) A (isType (.ref a)) Q' E t := by
    intro Q' hq
    simp only [isType, loadHead]
    refine wpAny_bind (wpAny_loadPart ha ?_)
    rw [hd]; exact wpAny_pure hq
  have hd3 := Obj.data_mapFields hd (·.setIfInBounds 3 .none)
  have ha3 := Heap.get?_update_self (Obj.mapFields (·.setIfInBounds 3 .none)) ha (Obj.isFreed_of_fields hd3)
  obtain ⟨ha4, hd4⟩ := noneFrom_at ha hd
  have s3 : 3 < vs.size := by omega
  have s4 : 4 < (vs.setIfInBounds 3 Value.none).size := by rw [set_size]; exact hi
  have s2 : 2 < ((vs.setIfInBounds 3 Value.none).setIfInBounds 4 (Value.bool true)).size := by rw [set_size, set_size]; omega
  have h14 : ((vs.setIfInBounds 3 Value.none).setIfInBounds 4 (Value.bool true))[1]? = some Value.none := set_other (by decide) (set_other (by decide) h1)
  have hcls4 : ((oa.mapFields (·.setIfInBounds 3 .none)).mapFields (·.setIfInBounds 4 (.bool true))).cls = cls := by rw [Obj.cls_mapFields, Obj.cls_mapFields]; exact hcls
  have LT4 : PySem.W.Looks (model prog w) (noneFrom t.heap a) (typeOf (.ref a)) cls := fun A Q E s k q => wpAny_typeOf_ref (k _ _ ha4) (by rw [hcls4]; exact q)
  have notT4 : ∀ {Q' : Bool → Shared → Prop}, Q' false { t with heap := noneFrom t.heap a } → wpAny (model prog w) A (isType (.ref a)) Q' E { t with heap := noneFrom t.heap a } := by
    intro Q' hq
    simp only [isType, loadHead]
    refine wpAny_bind (wpAny_loadPart ha4 ?_)
    rw [hd4]; exact wpAny_pure hq
  have hot4 : ChainAt A y a (noneFrom t.heap a) := by
    obtain ⟨q1, h0, n, na, kk, hc⟩ := hot
    refine ⟨q1, h0, n, na, fun b o e => ?_, hc⟩
    have nb : b ≠ a := fun z => by rw [z, na] at e; cases e
    rw [noneFrom_other (Ne.symm nb)]
    exact kk b o e
  have rest : wpAny (model prog w) A (do
      let b ← isType (.ref a)
      if b = true then do
        let e ← holding [.ref a] (raisedFor (.ref a) (.ref a))
        setFlight e none
        raiseNew e
      else do
        let e ← raisedInstance (.ref a)
        setFlight e none
        raiseNew e : Sem Flow) Q E { t with heap := noneFrom t.heap a } := by
    refine wpAny_bind (notT4 ?_)
    simp only [Bool.false_eq_true, if_false]
    unfold raisedInstance
    refine wpAny_bind (wpAny_bind (LT4.here (wpAny_bind (L3.here ?_))))
    rw [if_pos (beq_self_eq_true _)]
    refine wpAny_pure ?_
    unfold setFlight
    refine wpAny_bind (wpAny_bind (wpAny_field ha4 hd4 h14 ?_))
    rw [if_neg (by decide)]
    refine wpAny_pure ?_
    exact raiseNew_chain hot4 hne ha4 hd4 s2 hE
  refine wpAny_bind (wpAny_holding (hcs _ _ (wpAny_bind (wpAny_pure ?_))))
  dsimp only
  refine wpAny_bind (wpAny_holding ?_)
  unfold excFromValue isExcClass
  refine wpAny_bind (wpAny_bind (notT ?_))
  simp only [Bool.false_eq_true, if_false]
  refine wpAny_pure ?_
  simp only [Bool.false_eq_true, if_false]
  refine wpAny_bind (LI.here ?_)
  simp only [if_true]
  refine wpAny_pure ?_
  first
  | rw [if_pos (show (Value.none == Value.none) = true from rfl)]
  | (show wpAny _ _ (if (Value.none == Value.none) = true then _ else _) _ _ _; rw [if_pos (show (Value.none == Value.none) = true from rfl)])
  | simp only [beq_self_eq_true, if_true]
  first
  | refine wpAny_bind (wpAny_pure (wpAny_bind (wpAny_setField ha hd s3 (wpAny_bind (wpAny_setField ha3 hd3 s4 ?_)))))
  | refine wpAny_bind (wpAny_pure (wpAny_bind (wpAny_bind (wpAny_setField ha hd s3 (wpAny_bind (wpAny_setField ha3 hd3 s4 ?_))))))
  | refine wpAny_bind (wpAny_bind (wpAny_pure (wpAny_bind (wpAny_setField ha hd s3 (wpAny_setField ha3 hd3 s4 ?_)))))
  first
  | exact rest
  | (dsimp only; exact rest)
  | (refine wpAny_pure ?_; exact rest)
  | (simp only [bind_pure_comp] ; exact rest)
end
end Ps
namespace Ps
open PySem PySem.Spec PyProof.Rows L2 L2H HotX Vs He Pm
/-! # a def called while an exception is handled, of which nothing is asked -/
structure FnL (P : Program) (w : World) (K : PySem.W.Frag) (mg : Str → Option Value) (base : Heap) (CX : CXT) (k : Nat) (f : Addr) (fd : FuncData) (ps : List Str) (sp : Sp) : Prop where
  len : ∀ vs H Q E, sp vs H Q E → vs.length = ps.length
  run : ∀ (A : Around) (outer : List Env) (s : Shared) (H : Hp) (args : Args) (us : List Value) (vs : List V) (Q : VK) (E : XK) (p : Addr × Obj), RoomH k A → PinOk outer H s p → Env0 P w K mg base A outer s H → BindsTo s fd args (ps.zip us) → Vals vs us → sp vs H Q E →
    codeAny (model P w) A (.call (.ref f) args) (CR CX outer P w H s Q E) s
theorem fn_ofL {CX : CXT} {P : Program} {w : World} {K : PySem.W.Frag} {mg : Str → Option Value} {base : Heap} {k : Nat} {f : Addr} {name qual : Str} {params : Arguments} {body : List Stmt} {scope : Scope} {dV kV doc pm cdv ct oc : Value} {an od : Option Addr}
    {osl : Array (Option Value)} {N ps : List Str} {sp : Sp} (lk : K.lookup f = some ⟨oc, od, .func (PySem.W.fnOf name qual params body scope dV kV doc pm an cdv ct), osl⟩) (hcd : PySem.W.codeIn K cdv qual = true) (S : FnScope N ps scope)
    (len : ∀ vs H Q E, sp vs H Q E → vs.length = ps.length)
    (hbody : ∀ (A : Around) (outer : List Env) (s : Shared) (H : Hp) (vs : List V) (Q : VK) (E : XK) (p : Addr × Obj), RoomH k (A.deeper (envOfC qual scope s.heap.objs.size f cdv)) → sp vs H Q E →
      ∃ t, PSs (cxH CX P w K mg base N qual scope f cdv A outer s H E p) body t ∧ t { nx := fun _ H' => Q .non H', rt := Q } (L2.start N vs) H) :
    FnL P w K mg base CX (k + 1) f (PySem.W.fnOf name qual params body scope dV kV doc pm an cdv ct) ps sp := by
  refine ⟨len, fun A outer s H args us vs Q E p room hpin e0 hb r hsp => ?_⟩
  have sz := len _ _ _ _ hsp
  have kin : K.In s.heap := e0.mod.kin.keeps fun b o e => (e0.bs b o e).1
  have lim : s.heap.NoLimit := e0.mod.nolimit.keeps fun b o e => (e0.bs b o e).1
  have kinds : ∀ y ∈ ps.zip us, scope.names.lookup y.1 = some .local ∨ (scope.names.lookup y.1 = some .cell ∧ ((cellsFrom (s.heap.objs.size + 1) scope.names []).lookup y.1).isSome = true) := fun ⟨n, v⟩ hy => by
    rcases S.par n (List.of_mem_zip hy).1 with q | q
    · exact .inl q
    · exact .inr ⟨q, PySem.W.cellsFrom_some _ _ _ (.inl q)⟩
  refine codeAny_call_function room.depth (kin _ _ lk) rfl S.co S.gen rfl (PySem.W.codeRec_of kin hcd) (hb _ _ _ _ ?_)
  refine wpAny_newFunctionEnv_cells S.kind kinds fun env he s1 x => ?_
  subst he
  refine ⟨lim.keeps x.toInCall.keep, codeAny_func ?_⟩
  obtain ⟨t, ht, hq⟩ := hbody A outer s H vs Q E p (room.deeper _) hsp
  have I : Inv (cxH CX P w K mg base N qual scope f cdv A outer s H E p) [] (L2.start N vs) H s1 := inv_startH S hpin e0 sz r x
  refine wpAny_mono (ht.run [] s1 (L2.start N vs) H _ I hq) (fun fl s' hs => ?_) fun e s' hs => hs
  have fin : ∀ {σ' : L2.St} {H' : Hp} {v : V} {u : Value}, Inv (cxH CX P w K mg base N qual scope f cdv A outer s H E p) [] σ' H' s' → RelV v u → Q v H' → CE outer P w H s Q u s' :=
    fun {σ' H' v u} J rv q => ⟨v, H', J.os, J.bare, J.base, J.hok, rv, q⟩
  cases fl with
  | ret u =>
    obtain ⟨v, σ', H', J, rv, q⟩ := hs
    exact fin J rv q
  | next =>
    obtain ⟨σ', H', J, q⟩ := hs
    exact fin (v := V.non) (u := Value.none) J rfl q
  | brk =>
    obtain ⟨_, _, _, q⟩ := hs
    exact False.elim q
  | cont =>
    obtain ⟨_, _, _, q⟩ := hs
    exact False.elim q
section
variable {P : Program} {w : World} {K : PySem.W.Frag} {mg : Str → Option Value} {base : Heap} {x qual : Str} {params : Arguments} {body : List Stmt} {scope : Scope} {dvs : List V} {kws : List (Str × V)} {f : Addr} {fd : FuncData}
theorem FunD.okL {CX : CXT} {N ps : List Str} {k : Nat} {sp : Sp} (F : FunD K x qual params body scope dvs kws f fd) (S : FnScope N ps scope) (len : ∀ vs H Q E, sp vs H Q E → vs.length = ps.length)
    (hbody : ∀ (cdv : Value) (A : Around) (outer : List Env) (s : Shared) (H : Hp) (vs : List V) (Q : VK) (E : XK) (p : Addr × Obj), RoomH k (A.deeper (envOfC qual scope s.heap.objs.size f cdv)) → sp vs H Q E →
      ∃ t, PSs (cxH CX P w K mg base N qual scope f cdv A outer s H E p) body t ∧ t { nx := fun _ H' => Q .non H', rt := Q } (L2.start N vs) H) : FnL P w K mg base CX (k + 1) f fd ps sp := by
  obtain ⟨oc, od, dV, kV, doc, pm, an, cdv, ct, osl, rfl, lk, hcd, _, _⟩ := F.ex
  exact fn_ofL lk hcd S len fun A outer s H vs Q E p hr hsp => hbody cdv A outer s H vs Q E p hr hsp
end
/-- the pins bear the chain of contexts from y on -/
def PinCh (pn : List (Addr × Obj)) : Nat → Addr → Prop
  | 0, y => ∃ (o : Obj) (vs : Array Value), (y, o) ∈ pn ∧ o.data = .fields vs ∧ vs[2]? = some .none
  | n + 1, y => ∃ (o : Obj) (vs : Array Value) (z : Addr), (y, o) ∈ pn ∧ o.data = .fields vs ∧ vs[2]? = some (.ref z) ∧ PinCh pn n z
theorem PinCh.mem {pn : List (Addr × Obj)} : ∀ {n : Nat} {y : Addr}, PinCh pn n y → ∃ o : Obj, (y, o) ∈ pn
  | 0, _, ⟨o, _, h, _⟩ => ⟨o, h⟩
  | _ + 1, _, ⟨o, _, _, h, _⟩ => ⟨o, h⟩
theorem PinCh.sub {pn pn' : List (Addr × Obj)} (k : ∀ p, p ∈ pn → p ∈ pn') : ∀ {n : Nat} {y : Addr}, PinCh pn n y → PinCh pn' n y
  | 0, _, ⟨o, vs, h, r⟩ => ⟨o, vs, k _ h, r⟩
  | _ + 1, _, ⟨o, vs, z, h, d, c, r⟩ => ⟨o, vs, z, k _ h, d, c, r.sub k⟩
theorem PinCh.chn {pn : List (Addr × Obj)} {h : Heap} (k : ∀ p, p ∈ pn → h.get? p.1 = some p.2) : ∀ {n : Nat} {y : Addr}, PinCh pn n y → Chn h n y
  | 0, _, ⟨o, vs, h, r⟩ => ⟨o, vs, k _ h, r⟩
  | _ + 1, _, ⟨o, vs, z, h, d, c, r⟩ => ⟨o, vs, z, k _ h, d, c, r.chn k⟩
/-- an exception is handled; it stands among the pins with its contexts -/
def HotC2 (X : Cx) : Prop := ∃ (n : Nat) (y : Addr), X.A.handled = some (.ref y) ∧ PinCh X.pn n y
end Ps
namespace Ps
open PySem PySem.Spec PyProof.Rows L2 L2H HotX Vs He Pm
/-- C(e, ..), C's __init__ its own: the exception's context is None -/
theorem pmk_oexN {X : Cx} {CX : CXT} {x : Str} {e : Expr} {es : List Expr} {ta : TA} {p pos : Pos} {C fI : Addr} {k : Nat} {fd : FuncData} {ps : List Str} {sp : Sp} {ds : List Value} {dvs : List V} (T : OexC X.K C) (iC : PySem.W.findIn X.K (.ref C) "__init__" = some (some (.ref fI))) (tI : PySem.W.typeIn X.K (.ref fI) = some (.type "function"))
    (F1 : FnOk X.prog X.w X.K X.mg X.base CX k fI fd ps sp) (hr : Room (k + 1) X.A) (hb : Binds X.K fd ps ds) (hd : Vals dvs ds) (hx : Passes CX X (fun _ _ _ => False)) (hg : Gl X x) (hm : X.mg x = some (.ref C)) (ha : PA X (e :: es) ta)
    (hdb : (x == ("__debug__" : Str)) = false := by decide) (he : starEach (e :: es) X.env = (false, eval e X.env) :: starEach es X.env := by rfl) (hpl : (backTo pos (starEach es X.env)).any (·.1) = false := by rfl) :
    L2N.PMk X (.Call (.Name x p) (e :: es) [] pos) (tMkO C sp dvs ta) := by
  intro pins s σ H Q I h
  obtain ⟨nm, q, N, bs, bm, sn, sub, ab, col, dd, k0, k1, k2, k3, k5, hC, hbm⟩ := T.cls
  refine wpAny_Call_Name_kw (ld_glob I hg hm ?_ hdb)
  refine PySem.W.callWith_K (h₀ := X.base) I.ok.mod.kin T.kC (thn (ha.run pos pins s σ H _ I h) fun us s1 ⟨vs, H1, I1, r1, hz, q1⟩ => ⟨I1.kIn, ?_⟩) he hpl
  show wpAny _ _ (call (.ref C) us) _ _ _
  obtain ⟨hp, g, dr, tk, os⟩ := s1
  have up : hp.objs.size ≤ hp.objs.size + 1 := Nat.le_succ _
  have hn : H1 (hp.objs.size + 1) = none := I1.hok.fresh up
  have hq := q1 (hp.objs.size + 1) hn
  have kk : ∀ b o, hp.get? b = some o → ((hp.push (PySem.W.kdv_tup us)).push (PySem.HandSPX.excO C hp.objs.size)).get? b = some o := fun b o e => Heap.get?_push_of_some _ (Heap.get?_push_of_some _ e)
  have got : ((hp.push (PySem.W.kdv_tup us)).push (PySem.HandSPX.excO C hp.objs.size)).get? (hp.objs.size + 1) = some (PySem.HandSPX.excO C hp.objs.size) := by heap_get
  have I2 : Inv X pins σ (upd H1 (hp.objs.size + 1) (exo (hp.objs.size + 1) C none)) ⟨(hp.push (PySem.W.kdv_tup us)).push (PySem.HandSPX.excO C hp.objs.size), g, dr, tk, os⟩ :=
    I1.laid (t' := tk) (a := hp.objs.size + 1) (o := exo (hp.objs.size + 1) C none) (h' := (hp.push (PySem.W.kdv_tup us)).push (PySem.HandSPX.excO C hp.objs.size)) kk up (exo_ok got)
  have r3 : Vals (V.ref (hp.objs.size + 1) :: (vs ++ dvs)) (Value.ref (hp.objs.size + 1) :: (us ++ ds)) := .cons rfl (r1.append hd)
  have hl : (Value.ref (hp.objs.size + 1) :: us ++ ds).length = ps.length := by
    have e := r3.length
    rw [F1.len _ _ _ _ hq] at e
    exact e.symm
  have few : us.length ≤ sizeLine := by
    rw [← Paired.length r1, sizeLine_eq]
    omega
  refine wpAny_call (PySem.HandSPX.call_own F.excBase_ValueError (fun Y => PySem.HandSPX.refsVE_contains Y bm hbm) (I1.kIn _ _ hC) (PySem.W.looks_findIn I1.kIn iC) (fun self => PySem.W.bind_fn I1.kIn self tI) few
    (codeAny_mono (F1.run _ X.stack _ _ ⟨Value.ref (hp.objs.size + 1) :: us, []⟩ (Value.ref (hp.objs.size + 1) :: (us ++ ds)) _ _ (fun _ _ _ => False) (hr.make C us []) (I2.env0.make C us []) (hb _ (Value.ref (hp.objs.size + 1) :: us) I2.kIn hl) r3 hq) fun r s' hq' => ?_))
  cases r with
  | error er => exact hx pins σ _ _ er s' I2 hq'
  | ok fl =>
    cases fl with
    | ret u =>
      obtain ⟨v, H2, os2, bare2, un2, hok2, rv, ev, d, fs, ea, ed, hd1, q2⟩ := hq'
      subst ev
      obtain ⟨h2, g2, d2, t2, os'⟩ := s'
      obtain ⟨t0, G, J, kG, ge, hoe, na⟩ := mk_end0 (d2 := d2) (t2 := t2) I1 up kk un2 hok2 os2 bare2 ea ed hd1
      refine ⟨rv, hp.objs.size + 1, _, _, ⟨G, g2, d2, t2, os'⟩, _, .ref C, some d, rfl, J, kG, ge, hoe, ⟨rfl, rfl, fun vs hv => ?_⟩, rfl, rfl, na, rfl, bare2, raises_own T.exC T.tyC, q2⟩
      cases hv
      rfl
    | next => exact False.elim hq'
    | brk => exact False.elim hq'
    | cont => exact False.elim hq'
end Ps
namespace Ps
open PySem PySem.Spec PyProof.Rows L2 L2H HotX Vs He Pm
/-- C(e, ..) with defaults, while an exception is handled of which nothing is asked -/
theorem pmk5_oexL {X : Cx} {CX : CXT} {x : Str} {e : Expr} {es : List Expr} {ta : TA} {p pos : Pos} {C fI : Addr} {k : Nat} {fd : FuncData} {ps : List Str} {sp : Sp} {ds : List Value} {dvs : List V} (T : OexC X.K C) (iC : PySem.W.findIn X.K (.ref C) "__init__" = some (some (.ref fI))) (tI : PySem.W.typeIn X.K (.ref fI) = some (.type "function"))
    (F1 : FnL X.prog X.w X.K X.mg X.base CX k fI fd ps sp) (hr : RoomH (k + 1) X.A) (hc : HotC2 X) (hb : Binds X.K fd ps ds) (hd : Vals dvs ds) (hx : Passes CX X (fun _ _ _ => False)) (hg : Gl X x) (hm : X.mg x = some (.ref C)) (ha : PA X (e :: es) ta)
    (hdb : (x == ("__debug__" : Str)) = false := by decide) (he : starEach (e :: es) X.env = (false, eval e X.env) :: starEach es X.env := by rfl) (hpl : (backTo pos (starEach es X.env)).any (·.1) = false := by rfl) :
    PMk5 X (.Call (.Name x p) (e :: es) [] pos) (tMkO C sp dvs ta) := by
  intro pins s σ H Q I h
  obtain ⟨nm, q, N, bs, bm, sn, sub, ab, col, dd, k0, k1, k2, k3, k5, hC, hbm⟩ := T.cls
  obtain ⟨_, y, _, hc⟩ := hc
  obtain ⟨oy, hpn⟩ := hc.mem
  refine wpAny_Call_Name_kw (ld_glob I hg hm ?_ hdb)
  refine PySem.W.callWith_K (h₀ := X.base) I.ok.mod.kin T.kC (thn (ha.run pos pins s σ H _ I h) fun us s1 ⟨vs, H1, I1, r1, hz, q1⟩ => ⟨I1.kIn, ?_⟩) he hpl
  show wpAny _ _ (call (.ref C) us) _ _ _
  obtain ⟨hp, g, dr, tk, os⟩ := s1
  have hsz : hp.objs.size ≤ hp.objs.size + 1 := Nat.le_succ _
  have hn : H1 (hp.objs.size + 1) = none := I1.hok.fresh hsz
  have hq := q1 (hp.objs.size + 1) hn
  have kk : ∀ b o, hp.get? b = some o → ((hp.push (PySem.W.kdv_tup us)).push (PySem.HandSPX.excO C hp.objs.size)).get? b = some o := fun b o e => Heap.get?_push_of_some _ (Heap.get?_push_of_some _ e)
  have hget : ((hp.push (PySem.W.kdv_tup us)).push (PySem.HandSPX.excO C hp.objs.size)).get? (hp.objs.size + 1) = some (PySem.HandSPX.excO C hp.objs.size) := by heap_get
  have I2 : Inv X pins σ (upd H1 (hp.objs.size + 1) (exo (hp.objs.size + 1) C none)) ⟨(hp.push (PySem.W.kdv_tup us)).push (PySem.HandSPX.excO C hp.objs.size), g, dr, tk, os⟩ :=
    I1.laid (t' := tk) (a := hp.objs.size + 1) (o := exo (hp.objs.size + 1) C none) (h' := (hp.push (PySem.W.kdv_tup us)).push (PySem.HandSPX.excO C hp.objs.size)) kk hsz (exo_ok hget)
  have r2 : Vals (V.ref (hp.objs.size + 1) :: vs) (Value.ref (hp.objs.size + 1) :: us) := .cons rfl r1
  have r3 : Vals (V.ref (hp.objs.size + 1) :: (vs ++ dvs)) (Value.ref (hp.objs.size + 1) :: (us ++ ds)) := .cons rfl (r1.append hd)
  have hl : (Value.ref (hp.objs.size + 1) :: us ++ ds).length = ps.length := by
    have e := r3.length
    rw [F1.len _ _ _ _ hq] at e
    exact e.symm
  have hus : us.length ≤ sizeLine := by
    rw [← Paired.length r1, sizeLine_eq]
    omega
  have b2 := hb _ (Value.ref (hp.objs.size + 1) :: us) I2.kIn hl
  have P1 := I2.pin (y, oy) (List.mem_append_left _ hpn)
  have hpin : PinOk X.stack (upd H1 (hp.objs.size + 1) (exo (hp.objs.size + 1) C none)) ⟨(hp.push (PySem.W.kdv_tup us)).push (PySem.HandSPX.excO C hp.objs.size), g, dr, tk, os⟩ (y, oy) :=
    ⟨P1.1, P1.2.1, fun hmm => (List.mem_cons.mp (I2.stkSub y hmm)).elim P1.2.2.1 P1.2.2.2.1, P1.2.2.2.2⟩
  refine wpAny_call (PySem.HandSPX.call_own F.excBase_ValueError (fun Y => PySem.HandSPX.refsVE_contains Y bm hbm) (I1.kIn _ _ hC) (PySem.W.looks_findIn I1.kIn iC) (fun self => PySem.W.bind_fn I1.kIn self tI) hus
    (codeAny_mono (F1.run _ X.stack _ _ ⟨Value.ref (hp.objs.size + 1) :: us, []⟩ (Value.ref (hp.objs.size + 1) :: (us ++ ds)) _ _ (fun _ _ _ => False) (y, oy) (hr.make C us []) hpin (I2.env0.make C us []) b2 r3 hq) fun r s' hq' => ?_))
  cases r with
  | error er => exact hx pins σ _ _ er s' I2 hq'
  | ok fl =>
    cases fl with
    | ret u =>
      obtain ⟨v, H2, os2, bare2, un2, hok2, rv, ev, d, fs, ea, ed, hd1, q2⟩ := hq'
      subst ev
      obtain ⟨h2, g2, d2, t2, os'⟩ := s'
      obtain ⟨t0, G, J, kG, ge, hoe, na⟩ := mk_end0 (d2 := d2) (t2 := t2) I1 hsz kk un2 hok2 os2 bare2 ea ed hd1
      refine ⟨rv, ⟨hp.objs.size + 1, _, _, ⟨G, g2, d2, t2, os'⟩, _, .ref C, some d, rfl, J, kG, ge, hoe, ⟨rfl, rfl, fun vs hv => ?_⟩, rfl, rfl, na, rfl, bare2, raises_own T.exC T.tyC, q2⟩, fun a oe vs ea2 hg2 hd2 => ?_⟩
      · cases hv
        rfl
      · cases ea2
        have hg3 : h2.get? (hp.objs.size + 1) = some oe := hg2
        rw [hoe] at hg3
        cases hg3
        cases hd2
        show (4 : Nat) < 6
        decide
    | next => exact False.elim hq'
    | brk => exact False.elim hq'
    | cont => exact False.elim hq'
end Ps
/-! ## the family: an exception whose chain of contexts ends, all of it on the ground -/
namespace Ps
open PySem PySem.Spec PyProof.Rows L2 L2H HotX Vs He Pm
/-- o's contexts: n further ones, of the ground B and not tracked -/
def ChO (B : Heap) (H : Hp) : Nat → Obj → Prop
  | 0, o => ∀ vs : Array Value, o.data = .fields vs → vs[2]? = some .none
  | n + 1, o => ∀ vs : Array Value, o.data = .fields vs → ∃ (z : Addr) (oz : Obj) (us : Array Value), vs[2]? = some (.ref z) ∧ B.get? z = some oz ∧ H z = none ∧ oz.data = .fields us ∧ ChO B H n oz
theorem ChO.steady {B : Heap} {H : Hp} : ∀ n : Nat, PXN.Steady1 (ChO B H n)
  | 0 => PXN.steady_ctx
  | n + 1 => fun o v h => by
    obtain ⟨c, d, dt, sl⟩ := o
    cases dt with
    | fields vs0 =>
      intro vs e
      have e2 : vs0.setIfInBounds 1 v = vs := Data.fields.inj e
      have e3 : (vs0.setIfInBounds 1 v)[2]? = vs0[2]? := by
        first
        | exact Array.getElem?_setIfInBounds_ne (by decide)
        | simp [Array.getElem?_setIfInBounds]
      obtain ⟨z, oz, us, h1, r⟩ := h vs0 rfl
      exact ⟨z, oz, us, by rw [← e2, e3]; exact h1, r⟩
    | _ =>
      intro vs e
      first
      | exact Data.noConfusion e
      | cases e
def ZB (B : Heap) (H : Hp) (cls : Value) (d : Option Addr) : Obj → Prop := fun o => o.cls = cls ∧ o.dict = d ∧ ∃ n, ChO B H n o
theorem ZB.steady {B : Heap} {H : Hp} {cls : Value} {d : Option Addr} : PXN.Steady1 (ZB B H cls d) := fun o v h => by
  obtain ⟨h1, h2, n, h3⟩ := h
  exact ⟨PXN.steady_cls o v h1, PXN.steady_dict o v h2, n, ChO.steady n o v h3⟩
theorem ZB.zc {B : Heap} {H : Hp} {cls : Value} {d : Option Addr} {o : Obj} (h : ZB B H cls d o) : Zc cls d o := ⟨h.1, h.2.1⟩
theorem ZB.of {B : Heap} {H : Hp} {cls : Value} {d : Option Addr} {o : Obj} (h : L2N.Zn cls d o) : ZB B H cls d o := ⟨h.1, h.2.1, 0, h.2.2⟩
theorem sky_imp {B : Heap} {l : List Env} {a : Addr} {Z Z' : Obj → Prop} {L : Addr} {h : Heap} (z : ∀ o, Z o → Z' o) (x : Sky B l a Z L h) : Sky B l a Z' L h := by
  rcases x with ⟨h1, h2, h3, oe, vs, h4, h5, h6, h7⟩ | fl | hd
  · exact .inl ⟨h1, h2, h3, oe, vs, h4, z _ h5, h6, h7⟩
  · exact .inr (.inl (L2H.flyingZ_imp z fl))
  · exact .inr (.inr ⟨hd.1, hd.2.1, hd.2.2.1, L2H.tracedZ_imp z hd.2.2.2⟩)
def XEB (X : Cx) (W : WX) (u : Value) (s' : Shared) : Prop :=
  ∃ (a : Addr) (B : Heap) (sI : Shared) (pins : List (Addr × Obj)) (σ : L2.St) (H : Hp) (cls : Value) (d : Option Addr),
    u = .ref a ∧ Inv X pins σ H sI ∧ (∀ b o, sI.heap.get? b = some o → b ∉ frs X.stack → B.get? b = some o) ∧ sI.heap.UpToSlots s'.heap ∧
      Sky B X.stack a (ZB B H cls d) X.env.locals s'.heap ∧ H a = none ∧ s'.os = sI.os ∧ AllBare s'.gens ∧ W cls d σ H
def TakesB (X : Cx) (W : WX) : Prop := ∀ u s', XEB X W u s' → X.xe u s'
theorem TakesB.n {X : Cx} {W : WX} (t : TakesB X W) : L2N.Takes X W := fun u s' ⟨a, B, sI, pins, σ, H, cls, d, e, I, nb, up, sky, r⟩ => t u s' ⟨a, B, sI, pins, σ, H, cls, d, e, I, nb, up, sky_imp (fun _ => ZB.of) sky, r⟩
theorem TakesB.of {X : Cx} {W : WX} (t : L2.Takes X W) : TakesB X W := fun u s' ⟨a, B, sI, pins, σ, H, cls, d, e, I, nb, up, sky, r⟩ => t u s' ⟨a, B, sI, pins, σ, H, cls, d, e, I, nb, up, sky_imp (fun _ => ZB.zc) sky, r⟩
def CXB (P : Program) (w : World) (outer : List Env) (H : Hp) (s : Shared) (E : XK) (u : Value) (s' : Shared) : Prop :=
  ∃ (a : Addr) (B : Heap) (H' : Hp) (cls : Value) (d : Option Addr), u = .ref a ∧ HandSPX.FlyingZ B outer a (ZB B H' cls d) s'.heap ∧ HOk P w H' B ∧ UB (frs outer) H H' s.heap B s'.heap ∧ H' a = none ∧ s'.os = s.os ∧ AllBare s'.gens ∧ E cls d H'
section
variable {X : Cx} {pins : List (Addr × Obj)} {σ : L2.St} {H : Hp} {sI s s' : Shared} {B : Heap} {W : WX} {E : XK}
/-- what a call let out is in our air -/
theorem XEB.of_call (I : Inv X pins σ H s) (hW : ∀ c d H2, E c d H2 → W c d σ H2) {u : Value} (let_out : CXB X.prog X.w X.stack H s E u s') : XEB X W u s' := by
  obtain ⟨x, B, H2, c, d, eu, fly, hk, un, nx, eos, bare, wish⟩ := let_out
  subst eu
  have inB : B.StaysIn s'.heap := fly.1
  obtain ⟨G, gin, gout⟩ := restrict s'.heap fun y => decide (y ∈ frs X.stack) || (B.get? y).isSome
  have ofB : ∀ y o, B.get? y = some o → G.get? y = some o := fun y o e => (gin y (by simp [e])).trans (inB y o e)
  have ofF : ∀ y, y ∈ frs X.stack → G.get? y = s'.heap.get? y := fun y hy => gin y (by simp [hy])
  have only : ∀ y o, G.get? y = some o → s'.heap.get? y = some o ∧ (y ∈ frs X.stack ∨ (B.get? y).isSome = true) := fun y o e => by
    cases q : (decide (y ∈ frs X.stack) || (B.get? y).isSome) with
    | false => rw [gout y q] at e; cases e
    | true =>
      rw [gin y q] at e
      exact ⟨e, by simpa [Bool.or_eq_true] using q⟩
  have grd : ∀ y o, G.get? y = some o → y ∉ frs X.stack → B.get? y = some o := fun y o e hy => by
    obtain ⟨e2, q⟩ := only y o e
    rcases q with q | q
    · exact absurd q hy
    · obtain ⟨o2, e3⟩ := Option.isSome_iff_exists.mp q
      have e4 := inB y o2 e3
      rw [e2] at e4; cases e4
      exact e3
  have un2 : Un (frs X.stack) [] H H2 s.heap G := ⟨fun y o e n hy _ => ofB y o (un.keep y o e n hy), fun y o e n hy _ => (un.slot y o e hy).elim fun sl q => ⟨sl, (ofF y hy).trans q⟩, fun y o e n _ => un.free y o e n, fun y o e _ => by
    by_cases hy : y ∈ frs X.stack
    · exact (un.slot y o e hy).elim fun sl q => ⟨_, (ofF y hy).trans q⟩
    · exact (un.there y o e hy).elim fun o2 q => ⟨o2, ofB y o2 q⟩, un.tups, un.frzs, un.tbls⟩
  exact ⟨x, B, { s with heap := G, gens := s'.gens, drawn := s'.drawn, toks := s'.toks }, pins, σ, H2, c, d, rfl, I.call (ch := []) un2 (hk.kept ofB) bare (fun _ z => nomatch z), grd, Heap.UpToSlots.of_keeps fun y o e => (only y o e).1, .inr (.inl fly), nx, eos, bare, hW _ _ _ wish⟩
/-- a fresh exception is in our air; what it bears as its contexts stands in the state -/
theorem XEB.fresh {x : Addr} {ox : Obj} {vs : Array Value} {c : Value} {d : Option Addr} (I : Inv X pins σ H sI) (k : ∀ y o, sI.heap.get? y = some o → s'.heap.get? y = some o) (out : sI.heap.get? x = none) (hx : s'.heap.get? x = some ox)
    (hz : ZB (PySem.W.hideAll sI.heap (frs X.stack)) H c d ox) (hd : ox.data = .fields vs) (h1 : vs[1]? = some .none) (nx : H x = none) (eos : s'.os = sI.os) (bare : AllBare s'.gens) (wish : W c d σ H) : XEB X W (.ref x) s' := by
  have off : (PySem.W.hideAll sI.heap (frs X.stack)).get? x = none := by
    cases q : (PySem.W.hideAll sI.heap (frs X.stack)).get? x with
    | some o =>
      have e := PySem.W.of_hideAll _ q
      rw [out] at e; cases e
    | none => rfl
  have ff : s'.heap.FunFrames (PySem.W.hideAll sI.heap (frs X.stack)) X.stack := Heap.FunFrames.of_keeps (fun y o e _ => ⟨o, k y o e, rfl⟩) (funFrames_none I.stack fun y hy => PySem.W.hideAll_none _ hy)
  exact ⟨x, _, sI, pins, σ, H, c, d, rfl, I, fun y o e hy => PySem.W.hideAll_get _ e hy, Heap.UpToSlots.of_keeps k, .inl ⟨fun y o e => k y o (PySem.W.of_hideAll _ e), off, ff, ox, vs, hx, hz, hd, h1⟩, nx, eos, bare, wish⟩
/-- it goes out of the def -/
theorem XEB.goes (hs : X.stack = X.env :: X.outer) (hf : X.env.frame = some X.env.locals) (hex : X.ex = []) {E₁ : Value → Shared → Prop} (hW : ∀ c d σ H, W c d σ H → E c d H) {u : Value} (air : XEB X W u s') :
    wpAny (model X.prog X.w) X.A (leaving X.env u) (fun _ t => CXB X.prog X.w X.outer X.H_0 X.s_0 E u t) E₁ s' := by
  obtain ⟨x, B, sI, pins, σ, H, c, d, eu, I, grd, up, sky, nx, eos, bare, wish⟩ := air
  subst eu
  have frm : X.A.frames = some (X.env :: X.outer) := by rw [I.ok.frames, hs]
  have noex : ∀ y, y ∉ X.ex := fun y hy => by rw [hex] at hy; cases hy
  have own : ∀ y o, X.s_0.heap.get? y = some o → y ∉ X.fs → y ∉ frs X.stack := fun y o e hy hm => by
    rcases List.mem_cons.mp (I.stkSub y hm) with z | z
    · have lt1 := Heap.lt_size e
      have lt2 := I.ok.above
      rw [z] at lt1
      exact absurd (Nat.lt_of_lt_of_le lt1 lt2) (Nat.lt_irrefl X.env.locals)
    · exact hy z
  have done : ∀ h2, HandSPX.FlyingZ B X.outer x (ZB B H c d) h2 → s'.heap.UpToSlots h2 → CXB X.prog X.w X.outer X.H_0 X.s_0 E (.ref x) { s' with heap := h2 } := fun h2 fly up2 => by
    have ub : UB (frs X.outer) X.H_0 H X.s_0.heap B h2 := by
      refine ⟨fun y o e n hy => grd y o (I.base.keep y o e n hy (noex y)) (own y o e hy), fun y o e hy => ?_, fun y o e n => I.base.free y o e n (noex y), fun y o e hy => ?_, I.base.tups, I.base.frzs, I.base.tbls⟩
      · obtain ⟨_, o2, e2, nf⟩ := I.ok.funs.mem hy
        rw [e] at e2; cases e2
        obtain ⟨sl1, q1⟩ := I.base.slot y o e (I.ok.frf y hy) hy (noex y)
        obtain ⟨sl2, q2⟩ := up y _ q1 nf
        obtain ⟨sl3, q3⟩ := up2 y _ q2 nf
        exact ⟨sl3, q3⟩
      · exact (I.base.there y o e (noex y)).elim fun o2 q => ⟨o2, grd y o2 q (own y o e hy)⟩
    exact ⟨x, B, H, c, d, rfl, fly, I.inGround grd, ub, nx, eos.trans I.os, bare, hW _ _ _ _ wish⟩
  rw [hs] at sky
  rcases sky with ⟨q1, q2, q3, ox, vs, q4, q5, q6, q7⟩ | fly | held
  · exact PXN.leaving_firstZ ZB.steady frm q3 hf q4 q1 q2 q6 q7 q5 done
  · exact PXN.leaves_onZ ZB.steady frm hf fly done
  · exact HandSPX.leaves_heldZ hf held done
theorem takesB_of {E₁ : Value → Shared → Prop} (hs : X.stack = X.env :: X.outer) (hf : X.env.frame = some X.env.locals) (hex : X.ex = [])
    (hx : X.xe = fun e s' => wpAny (model X.prog X.w) X.A (leaving X.env e) (fun _ s'' => CXB X.prog X.w X.outer X.H_0 X.s_0 E e s'') E₁ s') : TakesB X (fun cls d _ H => E cls d H) := fun u s' x => by
  rw [hx]
  exact XEB.goes (W := fun cls d _ H => E cls d H) (E := E) hs hf hex (fun _ _ _ _ h => h) x
theorem passB (tk : TakesB X W) (σ : L2.St) : PassesAt (CXB X.prog X.w) X σ (WE W σ) := fun _ _ _ e s' I c => tk e s' (XEB.of_call I (fun _ _ _ h => h) c)
end
/-! ## raise C(..) from None in a suite -/
theorem PinCh.cho {X : Cx} {pins : List (Addr × Obj)} {σ : L2.St} {H : Hp} {s : Shared} (I : Inv X pins σ H s) : ∀ {n : Nat} {y : Addr}, PinCh X.pn n y → ∀ (o : Obj) (vs : Array Value), o.data = .fields vs → vs[2]? = some (.ref y) → ChO (PySem.W.hideAll s.heap (frs X.stack)) H (n + 1) o := by
  intro n
  have at_ : ∀ {y : Addr} {o : Obj}, (y, o) ∈ X.pn → (PySem.W.hideAll s.heap (frs X.stack)).get? y = some o ∧ H y = none := fun {y o} hm => by
    obtain ⟨h1, h2, h3, h4, _⟩ := I.pin (y, o) (List.mem_append_left _ hm)
    exact ⟨PySem.W.hideAll_get _ h1 fun q => (List.mem_cons.mp (I.stkSub y q)).elim h3 h4, h2⟩
  induction n with
  | zero =>
    rintro y ⟨oy, us, hm, d1, c1⟩ o vs hd h2 vs' hd'
    rw [hd] at hd'; cases hd'
    obtain ⟨g1, g2⟩ := at_ hm
    exact ⟨y, oy, us, h2, g1, g2, d1, fun us' e => by rw [d1] at e; cases e; exact c1⟩
  | succ n ih =>
    rintro y ⟨oy, us, z, hm, d1, c1, r⟩ o vs hd h2 vs' hd'
    rw [hd] at hd'; cases hd'
    obtain ⟨g1, g2⟩ := at_ hm
    exact ⟨y, oy, us, h2, g1, g2, d1, ih r oy us d1 c1⟩
theorem ps_raiseHB {X : Cx} {W : WX} {e : Expr} {t : L2.St → Hp → XK → Prop} {j : Nat} {cpos pos : Pos} (hc : HotC2 X) (tk : TakesB X W) (he : PMk5 X e t) :
    PS X (.Raise (some e) (some (.Constant .none j cpos)) pos) (fun _ σ H => t σ H fun cls d H' => W cls d σ H') := by
  refine ⟨fun pins s σ H D I h => ?_⟩
  obtain ⟨n, y, hh, hp⟩ := hc
  show wpAny _ _ (do standAt pos; raiseStmt X.env (some (do let v ← eval e X.env; standAt pos; pure v)) (some (do let v ← eval (.Constant .none j cpos) X.env; standAt pos; pure v))) _ _ _
  refine wpAny_bind (wpAny_standAt (raiseFrom_chain (y := y) (fun s2 Q2 q2 => wpAny_bind (Constant_none (wpAny_bind (wpAny_standAt (wpAny_pure q2))))) (wpAny_bind (wpAny_mono (he pins s σ H _ I h) (fun u s1 hu => wpAny_bind (wpAny_standAt (wpAny_pure ?_))) fun _ _ x => x))))
  obtain ⟨⟨a, oa, vs, sI, H', cls, d, rfl, J, k, hne, ha, hz, hd, h1, na, os, ag, r, q⟩, h5⟩ := hu
  have hi : 4 < vs.size := h5 a oa vs rfl ha hd
  have k4 : ∀ b u, sI.heap.get? b = some u → (noneFrom s1.heap a).get? b = some u := fun b u z => by
    have nab : a ≠ b := fun y => by
      rw [← y, hne] at z
      cases z
    rw [noneFrom_other nab]
    exact k b u z
  obtain ⟨r1, _⟩ := r (model X.prog X.w) s1.heap (J.kIn.keeps k)
  obtain ⟨_, r2⟩ := r (model X.prog X.w) (noneFrom s1.heap a) (J.kIn.keeps k4)
  have stood : ∀ q : Addr × Obj, q ∈ X.pn → sI.heap.get? q.1 = some q.2 := fun q hq => (J.pin q (List.mem_append_left _ hq)).1
  have chn := hp.chn stood
  obtain ⟨oy, hoy⟩ := hp.mem
  have nap : y ≠ a := fun z => by
    have P := stood _ hoy
    rw [show (y, oy).1 = a from z, hne] at P
    cases P
  have hot : ChainAt X.A y a s1.heap := ⟨hh, sI.heap, n, hne, k, chn⟩
  obtain ⟨ha4, hd4⟩ := noneFrom_at ha hd
  have h12 : (((vs.setIfInBounds 3 Value.none).setIfInBounds 4 (Value.bool true)).setIfInBounds 2 (Value.ref y))[1]? = some Value.none := set_other (by decide) (set_other (by decide) (set_other (by decide) h1))
  have h22 : (((vs.setIfInBounds 3 Value.none).setIfInBounds 4 (Value.bool true)).setIfInBounds 2 (Value.ref y))[2]? = some (Value.ref y) := by
    rw [Array.getElem?_setIfInBounds_self_of_lt]
    rw [set_size, set_size]; omega
  have nd := Obj.data_mapFields hd4 (·.setIfInBounds 2 (.ref y))
  refine ⟨a, oa, vs, cls, rfl, ha, hz.1, hd, h1, hi, nap, hot, r1, r2, tk _ _ (XEB.fresh J (fun b u z => ?_) hne (Heap.get?_update_self _ ha4 (Obj.isFreed_of_fields nd))
    ⟨by rw [Obj.cls_mapFields, Obj.cls_mapFields, Obj.cls_mapFields]; exact hz.1, by rw [HandSPX.dict_mapFields, HandSPX.dict_mapFields, HandSPX.dict_mapFields]; exact hz.2.1, n + 1, PinCh.cho J hp _ _ nd h22⟩ nd h12 na os ag q)⟩
  have nab : a ≠ b := fun y => by
    rw [← y, hne] at z
    cases z
  show ((noneFrom s1.heap a).update a (Obj.mapFields (·.setIfInBounds 2 (.ref y)))).get? b = some u
  rw [Heap.get?_update_other _ _ nab]
  exact k4 b u z
end Ps
/-! ## the try -/
namespace Ps
open PySem PySem.Spec PyProof.Rows L2 L2H HotX Vs He Pm
/-- more pins -/
theorem Inv.more {X : Cx} {pins : List (Addr × Obj)} {σ : L2.St} {H : Hp} {s : Shared} (I : Inv X pins σ H s) (q : List (Addr × Obj)) (h : ∀ p ∈ q, s.heap.get? p.1 = some p.2 ∧ H p.1 = none ∧ p.1 ≠ X.env.locals ∧ p.1 ∉ X.fs ∧ ∀ v, p.2.data ≠ .cell v) : Inv X (q ++ pins) σ H s :=
  ⟨I.ok, I.os, I.bare, I.base, I.loc, I.cell, I.free, I.freeC, fun p hp => by
    rcases List.mem_append.mp hp with z | z
    · exact I.pin p (List.mem_append_left _ z)
    · rcases List.mem_append.mp z with z | z
      · exact h p z
      · exact I.pin p (List.mem_append_right _ z), I.hok, I.len⟩
theorem Inv.fewer {X : Cx} {pins q : List (Addr × Obj)} {σ : L2.St} {H : Hp} {s : Shared} (I : Inv X (q ++ pins) σ H s) : Inv X pins σ H s :=
  ⟨I.ok, I.os, I.bare, I.base, I.loc, I.cell, I.free, I.freeC, fun p hp => (List.mem_append.mp hp).elim (fun z => I.pin p (List.mem_append_left _ z)) fun z => I.pin p (List.mem_append_right _ (List.mem_append_right _ z)), I.hok, I.len⟩
/-- the chain's pins -/
theorem ChO.pins {B h : Heap} {H : Hp} {l : List Env} {L : Addr} {fs : List Addr} (st : B.StaysIn h) (nL : ∀ z o, B.get? z = some o → z ≠ L ∧ z ∉ fs) : ∀ (n : Nat) (o : Obj) (vs : Array Value), ChO B H n o → o.data = .fields vs →
    ∃ q : List (Addr × Obj), (∀ p ∈ q, h.get? p.1 = some p.2 ∧ H p.1 = none ∧ p.1 ≠ L ∧ p.1 ∉ fs ∧ ∀ v, p.2.data ≠ .cell v) ∧ ∀ (y : Addr) (pn : List (Addr × Obj)), (∀ p, p ∈ q → p ∈ pn) → (y, o) ∈ pn → PinCh pn n y := by
  intro n
  induction n with
  | zero => exact fun o vs h d => ⟨[], fun _ hp => (List.not_mem_nil hp).elim, fun y pn _ hy => ⟨o, vs, hy, d, h vs d⟩⟩
  | succ n ih =>
    intro o vs hc d
    obtain ⟨z, oz, us, h1, h2, h3, h4, h5⟩ := hc vs d
    obtain ⟨q, q1, q2⟩ := ih oz us h5 h4
    refine ⟨(z, oz) :: q, fun p hp => ?_, fun y pn hs hy => ⟨o, vs, z, hy, d, h1, q2 z pn (fun p hp => hs p (List.mem_cons_of_mem _ hp)) (hs _ List.mem_cons_self)⟩⟩
    rcases List.mem_cons.mp hp with e | hp
    · subst e
      exact ⟨st _ _ h2, h3, (nL z oz h2).1, (nL z oz h2).2, fun v e => by rw [show (z, oz).2.data = Data.fields us from h4] at e; cases e⟩
    · exact q1 p hp
section
variable {X : Cx} {t : Expr} {cs : List Value} {body suite : List Stmt} {b₀ : Stmt} {pos pos' : Pos} {tb : WX → TS} {ts : Addr → Value → Option Addr → TS} {Wout : WX}
theorem ps_try_B (hs : X.stack = X.env :: X.outer) (hf : X.env.frame = some X.env.locals) (ht : HT X t cs)
    (hpa : ∀ hd : Option Value, PassesOwnAt (model X.prog X.w) (X.A.mark hd) X.A X.env X.xe) (tk : TakesB X Wout)
    (hb : ∀ (W : WX) (pn : List (Addr × Obj)) (xe : Value → Shared → Prop), TakesB (X.tr pn xe) W → PassesOwn (model X.prog X.w) X.A X.env xe → PSs (X.tr pn xe) body (tb W))
    (hsu : ∀ (a : Addr) (oe : Obj) (cls : Value) (d : Option Addr) (pn : List (Addr × Obj)), TakesB (L2H.suiteX X a ((a, oe) :: pn)) Wout → HotC2 (L2H.suiteX X a ((a, oe) :: pn)) →
      PSs (L2H.suiteX X a ((a, oe) :: pn)) (b₀ :: suite) (ts a cls d)) :
    PS X (.Try body [.ExceptHandler (some t) none (b₀ :: suite) pos'] [] [] pos) (fun D σ H => tb (wMt X.K cs ts Wout D) D σ H) := by
  refine ⟨fun pins s σ H D I h => ?_⟩
  have ok := I.ok
  have frm : X.A.frames = some (X.env :: X.outer) := by rw [ok.frames, hs]
  refine wpAny_Try_except (wpAny_mono ((hb (wMt X.K cs ts Wout D) (X.pn ++ pins) (fun e s₁ => wpAny (model X.prog X.w) X.A (noteFrame e X.env) (fun _ s₂ => wpAny (model X.prog X.w) X.A (setFlight e none) (fun _ s₃ =>
    wpAny (model X.prog X.w) X.A (handleBy e X.env [.ExceptHandler (some t) none (b₀ :: suite) pos']) (SP X pins D) X.xe s₃) X.xe s₂) X.xe s₁) (fun u s' air => ?_) PassesOwn.looking).run [] s σ H D (I.toTry _) h) (fun f s1 hsp => ?_) (fun e s1 he => he))
  · obtain ⟨x, B, sI, pins', σ', H', c, d, eu, J', grd, up, sky, nx, eos, bare, b, hb1, hyes, hno⟩ := air
    subst eu
    have J : Inv X pins σ' H' sI := J'.ofTry ok
    have sky' : Sky B (X.env :: X.outer) x (ZB B H' c d) X.env.locals s'.heap := by rw [← hs]; exact sky
    show wpAny (model X.prog X.w) X.A (noteFrame (.ref x) X.env) _ _ _
    refine L2N.Sky.land ZB.steady frm hf sky' fun h3 fl3 up3 => ?_
    have J3 : Inv X pins σ' H' { s' with heap := h3 } := J.landed grd fl3.1 (up.trans up3) eos bare
    obtain ⟨o3, vs3, g3, z3, d3⟩ := fl3.there
    have notB : ∀ y, y ∈ frs (X.env :: X.outer) → B.get? y = none := fun y hm => (fl3.2.2.1.mem hm).1
    have nfr : x ∉ frs (X.env :: X.outer) := fun hm => by
      obtain ⟨_, o2, e2, nf⟩ := fl3.2.2.1.mem hm
      rw [g3] at e2; cases e2
      exact nf _ d3
    have inL : X.env.locals ∈ frs (X.env :: X.outer) := List.mem_filterMap.mpr ⟨X.env, List.mem_cons_self, hf⟩
    have inF : ∀ y, y ∈ X.fs → y ∈ frs (X.env :: X.outer) := fun y hm => (List.mem_filterMap.mp hm).elim fun e q => List.mem_filterMap.mpr ⟨e, List.mem_cons_of_mem _ q.1, q.2⟩
    have nL : x ≠ X.env.locals := fun z => nfr (z ▸ inL)
    have nF : x ∉ X.fs := fun z => nfr (inF x z)
    have S3 := J3.suite g3 d3 nx nL nF
    refine wpAny_handleBy_cons (codeAny_handlers_test ?_) (by intro q; cases q)
    have LT : PySem.W.Looks (model X.prog X.w) h3 (typeOf (.ref x)) c := fun A Q E s k q => wpAny_typeOf_ref (k _ _ g3) (by rw [z3.1]; exact q)
    refine ht x o3 _ _ _ _ _ c b S3 LT hb1 fun h5 k5 => ?_
    have fl5 := flyingK fl3 k5
    have up5 : h3.UpToSlots h5 := Heap.UpToSlots.of_keeps k5
    cases b with
    | true =>
      refine codeAny_handlers_suite (HandSPX.lands_againZ fl5 fun h4 fl4 up4 => ?_)
      have J4 : Inv X pins σ' H' { s' with heap := h4 } := J.landed grd fl4.1 (((up.trans up3).trans up5).trans up4) eos bare
      obtain ⟨o4, vs4, g4, z4, d4⟩ := fl4.there
      obtain ⟨_, _, n, hch⟩ := z4
      obtain ⟨zs, zs1, zs2⟩ := ChO.pins (l := []) (L := X.env.locals) (fs := X.fs) fl4.1 (fun z o e => ⟨fun q => (by rw [q, notB _ inL] at e; cases e), fun q => (by rw [notB _ (inF z q)] at e; cases e)⟩) n o4 vs4 hch d4
      have J5 : Inv X (zs ++ pins) σ' H' { s' with heap := h4 } := Inv.more J4 zs zs1
      have S5 := J5.suite g4 d4 nx nL nF
      have tkS : TakesB (L2H.suiteX X x ((x, o4) :: (X.pn ++ (zs ++ pins)))) Wout := fun u2 s2 x2 => by
        obtain ⟨a2, B2, sI2, pn2, σ2, H2, cls2, d2, e2, I2, r2⟩ := x2
        exact tk u2 s2 ⟨a2, B2, sI2, zs ++ pins, σ2, H2, cls2, d2, e2, L2H.unsuiteX I2 ok, r2⟩
      have hot : HotC2 (L2H.suiteX X x ((x, o4) :: (X.pn ++ (zs ++ pins)))) := ⟨n, x, rfl, zs2 x _ (fun p hp => List.mem_cons_of_mem _ (List.mem_append_right _ (List.mem_append_left _ hp))) List.mem_cons_self⟩
      refine wpAny_mono ((hsu x o4 c d (X.pn ++ (zs ++ pins)) tkS hot).run [] _ _ H' _ (L2H.suiteX_of S5) (hyes rfl x nx)) (fun f s6 hsp => ?_) (fun e6 s6 z => hpa (some (.ref x)) e6 s6 z)
      cases f with
      | next => exact hsp.elim fun σ6 r => r.elim fun H6 r => ⟨_, _, Inv.fewer (L2H.unsuiteX r.1 ok), r.2⟩
      | brk => exact hsp.elim fun σ6 r => r.elim fun H6 r => ⟨_, _, Inv.fewer (L2H.unsuiteX r.1 ok), r.2⟩
      | cont => exact hsp.elim fun σ6 r => r.elim fun H6 r => ⟨_, _, Inv.fewer (L2H.unsuiteX r.1 ok), r.2⟩
      | ret u =>
        obtain ⟨v6, σ6, H6, S6, r6⟩ := hsp
        exact ⟨_, _, _, Inv.fewer (L2H.unsuiteX S6 ok), r6⟩
    | false =>
      show wpAny _ X.A (handleBy (.ref x) X.env []) _ _ _
      refine wpAny_handleBy_nil ?_
      obtain ⟨k1, k2, k3, o5, vs5, T, oT, ts5, he, hz, hd, h1, hr⟩ := id fl5
      unfold PySem.passOn
      refine wpAny_bind (wpAny_field he hd h1 ?_)
      rw [if_neg (show ¬ ((Value.ref T == Value.none) = true) from by simp)]
      have on : wpAny (model X.prog X.w) X.A (setFlight (.ref x) X.env.frame) (fun _ s4 => wpAny (model X.prog X.w) X.A (throw (.ref x) : Sem Flow) (SP X pins D) X.xe s4) X.xe { s' with heap := h5 } := by
        rw [hf]
        refine HandSPX.setFlight_upZ fl5 fun h4 held up4 => wpAny_throw (tk _ _ ?_)
        exact ⟨x, B, sI, pins, σ', H', c, d, rfl, J, grd, ((up.trans up3).trans up5).trans up4, .inr (.inr (by rw [hs]; exact held)), nx, eos, bare, hno rfl⟩
      first
      | exact wpAny_bind (wpAny_pure (wpAny_bind on))
      | exact wpAny_bind on
  · cases f with
    | next => exact hsp.elim fun σ6 r => r.elim fun H6 r => wpAny_execs_nil ⟨_, _, r.1.ofTry ok, r.2⟩
    | brk => exact hsp.elim fun σ6 r => r.elim fun H6 r => ⟨_, _, r.1.ofTry ok, r.2⟩
    | cont => exact hsp.elim fun σ6 r => r.elim fun H6 r => ⟨_, _, r.1.ofTry ok, r.2⟩
    | ret u =>
      obtain ⟨v6, σ6, H6, S6, r6⟩ := hsp
      exact ⟨_, _, _, S6.ofTry ok, r6⟩
end
section
variable {X : Cx} {p : Px} {W : WX}
theorem qs_tryB (hx : Xc X.K) {Xs : List String} {t : Expr} {body suite : List Stmt} {b₀ : Stmt} {pos pos' : Pos} {mb ms : MS} (m : Xs.all inX = true)
    (hs : X.stack = X.env :: X.outer) (hf : X.env.frame = some X.env.locals) (ht : HT X t (Xs.map fun Y : String => Value.ref (ga X.K Y)))
    (hpa : ∀ hd : Option Value, PassesOwnAt (model X.prog X.w) (X.A.mark hd) X.A X.env X.xe) (tk : TakesB X W)
    (hb : ∀ (W : WX) (pn : List (Addr × Obj)) (xe : Value → Shared → Prop), TakesB (X.tr pn xe) W → PassesOwn (model X.prog X.w) X.A X.env xe → PSs (X.tr pn xe) body (cS X.K p W mb))
    (hsu : ∀ (a : Addr) (oe : Obj) (pn : List (Addr × Obj)), TakesB (L2H.suiteX X a ((a, oe) :: pn)) W → HotC2 (L2H.suiteX X a ((a, oe) :: pn)) → PSs (L2H.suiteX X a ((a, oe) :: pn)) (b₀ :: suite) (cS X.K p W ms)) :
    PS X (.Try body [.ExceptHandler (some t) none (b₀ :: suite) pos'] [] [] pos) (cS X.K p W (sTryR mb Xs ms)) :=
  imS (i_tryR hx m) (ps_try_B hs hf ht hpa tk hb fun a oe _ _ pn tk hot => hsu a oe pn tk hot)
theorem qs_raiseHB {C f : String} {j n l : Nat} {dv : List Dx} {us : List V} {ms : MA} {e : Expr} {cpos pos : Pos} (m : inX C = true) (k : RvC X.K us dv) (hc : HotC2 X) (tk : TakesB X W) (he : L2H.PMk5 X e (tMkO (ga X.K C) (spX X.K C f j n) us (cA X.K p W ms))) : PS X (.Raise (some e) (some (.Constant .none l cpos)) pos) (cS X.K p W (sRaiseO C f j n dv ms)) := imS (i_raiseO m k) (ps_raiseHB hc tk he)
theorem qs_raiseB {C : String} {e : Expr} {pos : Pos} (m : inX C = true) (hc : X.calm = true) (tk : TakesB X W) (he : L2N.PMk X e (fun _ H Q => Q (.ref (ga X.K C)) none H)) : PS X (.Raise (some e) none pos) (cS X.K p W (sRaise C)) := imS (i_raise m) (L2N.ps_raise hc tk.n he)
theorem qs_raiseOB {C f : String} {j n : Nat} {dv : List Dx} {us : List V} {ms : MA} {e : Expr} {pos : Pos} (m : inX C = true) (k : RvC X.K us dv) (hc : X.calm = true) (tk : TakesB X W) (he : L2N.PMk X e (tMkO (ga X.K C) (spX X.K C f j n) us (cA X.K p W ms))) : PS X (.Raise (some e) none pos) (cS X.K p W (sRaiseO C f j n dv ms)) := imS (i_raiseO m k) (L2N.ps_raise hc tk.n he)
end
end Ps

/-! # soundness: a lambda of one parameter, handed to a def that calls it -/
namespace Ps
open PySem PySem.Spec PyProof.Rows L2 LamX Vs He Pm
/-- its names: the parameter pn, captured ones, globals -/
structure LamS1 (sc scope : Scope) (N : List Str) (pn : Str) : Prop where
  kind : scope.kind = .function
  co : scope.isCoroutine = false
  gen : scope.isGenerator = false
  cell : ∀ y ∈ scope.names, y.2 ≠ .cell
  own : ∀ y ∈ scope.names, y.2 = .local → y.1 = pn
  par : scope.names.lookup pn = some .local
  free : ∀ y ∈ scope.names, y.2 = .free → sc.names.lookup y.1 = some .cell ∨ sc.names.lookup y.1 = some .free
  out : pn ∉ N
def lamS1B (sc scope : Scope) (N : List Str) (pn : Str) : Bool :=
  decide (scope.kind = .function) && (!scope.isCoroutine && (!scope.isGenerator && ((scope.names.all fun y => !decide (y.2 = .cell) && ((!decide (y.2 = .local) || decide (y.1 = pn)) && (!decide (y.2 = .free) || (decide (sc.names.lookup y.1 = some .cell) || decide (sc.names.lookup y.1 = some .free))))) && (decide (scope.names.lookup pn = some .local) && decide (pn ∉ N)))))
theorem lamS1_by {sc scope : Scope} {N : List Str} {pn : Str} (h : lamS1B sc scope N pn = true) : LamS1 sc scope N pn := by
  unfold lamS1B at h
  simp only [Bool.and_eq_true, Bool.not_eq_true', decide_eq_true_eq, List.all_eq_true, Bool.or_eq_true, decide_eq_false_iff_not] at h
  obtain ⟨h1, h2, h3, h4, h5, h6⟩ := h
  exact ⟨h1, h2, h3, fun y hy => (h4 y hy).1, fun y hy e => ((h4 y hy).2.1).elim (fun z => absurd e z) id, h5, fun y hy e => ((h4 y hy).2.2).elim (fun z => absurd e z) id, h6⟩
theorem LamS1.has {X : Cx} {scope : Scope} {pn : Str} (L : LamS1 X.env.scope scope X.N pn) (ok : X.Ok) : ∀ y ∈ scope.names, y.2 = .free → ∃ c, X.env.cells.lookup y.1 = some c := fun y hy e => (L.free y hy e).elim (fun k => ok.has _ (.inl k)) fun k => ok.has _ (.inr k)
/-- the context of its body, entered at s from the frames outer -/
def lamC1 (X : Cx) (A : Around) (outer : List Env) (s : Shared) (H : Hp) (E : XK) (scope : Scope) (pn : Str) (f c' : Addr) : Cx where
  prog := X.prog
  w := X.w
  K := X.K
  mg := X.mg
  base := X.base
  A := A.deeper (lamEnv X scope s.heap.objs.size f c')
  N := X.N ++ [pn]
  s_0 := s
  H_0 := H
  env := lamEnv X scope s.heap.objs.size f c'
  outer := outer
  stack := lamEnv X scope s.heap.objs.size f c' :: outer
  ex := []
  fn := fun _ => false
  calm := true
  pn := []
  xe := fun e s' => wpAny (model X.prog X.w) (A.deeper (lamEnv X scope s.heap.objs.size f c')) (leaving (lamEnv X scope s.heap.objs.size f c') e) (fun _ s'' => L2.CX X.prog X.w outer H s E e s'') (fun e' s'' => L2.CX X.prog X.w outer H s E e' s'') s'
section
variable {X : Cx} {pins : List (Addr × Obj)} {σ : L2.St} {H HZ : Hp} {s s1 : Shared}
theorem lam_start1 {A : Around} {outer : List Env} {E : XK} {scope : Scope} {pn : Str} {f c' : Addr} {h₁ : Heap} {tk : Nat} {v : V} {u : Value} (I : Inv X pins σ H s) (L : LamS1 X.env.scope scope X.N pn) (e0 : Env0 X.prog X.w X.K X.mg X.base A outer s1 HZ) (hd : A.handled = none)
    (un : Un (frs X.stack) [] H HZ s.heap s1.heap) (hns : h₁.Ns s1.heap.objs.size fun y => ([(pn, u)] : List (Str × Value)).reverse.lookup y) (kp : ∀ b o, s1.heap.get? b = some o → h₁.get? b = some o) (rv : L2.RelV v u) :
    Inv (lamC1 X A outer s1 HZ E scope pn f c') [] (σ ++ [some v]) HZ { s1 with heap := h₁, toks := tk } := by
  have hfree := L.has I.ok
  have cm : ∀ {y c}, (cloFrom X.env.cells scope.names []).lookup y = some c → X.env.cells.lookup y = some c := fun {y c} e => by
    rcases cloFrom_mem (PySem.mem_of_lookup e) with hm | ⟨h1, h2⟩
    · cases hm
    · obtain ⟨c1, hc⟩ := hfree _ h1 rfl
      have hc : X.env.cells.lookup y = some c1 := hc
      have e2 : c = c1 := by
        rw [h2, hc] <;> rfl
      rw [e2]
      exact hc
  have look : ∀ {y}, scope.names.lookup y = some .free → ∃ c, (cloFrom X.env.cells scope.names []).lookup y = some c := fun {y} hl => mem_lookup (cloFrom_has (cells := X.env.cells) (acc := []) (PySem.mem_of_lookup hl))
  have stays : ∀ {c : Addr} {v : Option Value}, H c = none → s.heap.IsCell c v → h₁.IsCell c v := fun {c v} n ⟨o, ho, hd⟩ => (un.any ho n (by simp)).elim fun sl q => ⟨_, kp _ _ q, hd⟩
  have none_in : ∀ b : Addr, b ∉ (lamC1 X A outer s1 HZ E scope pn f c').ex := fun b z => absurd (show b ∈ ([] : List Addr) from z) (by simp)
  have ok : (lamC1 X A outer s1 HZ E scope pn f c').Ok := by
    refine ⟨e0.mod, L.kind, rfl, rfl, Nat.le_refl _, fun y z c e1 e2 => I.ok.inj y z c (cm e1) (cm e2), fun y hy => ?_, fun y c z _ => ?_, fun _ => hd, Around.frames_deeper e0.frames, .inr ⟨rfl, rfl⟩, fun b z => absurd z (none_in b), e0.bs, e0.bsz, fun b _ _ => none_in b,
      fun b z => absurd z (none_in b), e0.funs, e0.frf⟩
    · have hy : scope.names.lookup y = some .cell ∨ scope.names.lookup y = some .free := hy
      rcases hy with hy | hy
      · exact absurd rfl (L.cell _ (PySem.mem_of_lookup hy))
      · exact look hy
    · have z : false = true := z
      cases z
  refine ⟨ok, rfl, e0.bare, Un.kept kp, ⟨_, hns, fun i y v' e1 e2 e3 => ?_⟩, fun y c e => ?_, e0.hok.fresh (Nat.le_refl _), fun y c e => ?_, fun q hq => absurd (show q ∈ ([] : List (Addr × Obj)) ++ [] from hq) (by simp), e0.hok.kept kp, by show (σ ++ [some v]).length = (X.N ++ [pn]).length; simp [I.len]⟩
  · have e1 : (X.N ++ [pn])[i]? = some y := e1
    by_cases hi : i < X.N.length
    · rw [List.getElem?_append_left hi] at e1
      rw [List.getElem?_append_left (by rw [I.len]; exact hi)] at e2
      have e3 : Vis scope y := e3
      rcases e3 with k | k | k
      · have e := L.own _ (PySem.mem_of_lookup k) rfl
        have e : y = pn := e
        exact absurd (List.mem_of_getElem? e1) (e ▸ L.out)
      · exact absurd rfl (L.cell _ (PySem.mem_of_lookup k))
      · obtain ⟨m, hn, hl⟩ := I.loc
        have hvis : Vis X.env.scope y := (L.free _ (PySem.mem_of_lookup k) rfl).elim (fun k => .inr (.inl k)) (fun k => .inr (.inr k))
        obtain ⟨w', r, q⟩ := hl i y v' e1 e2 hvis
        obtain ⟨c2, h2⟩ := look k
        refine ⟨w', r, .inr ⟨.inr k, c2, h2, ?_⟩⟩
        have c1 := cm h2
        rcases q with ⟨k', _⟩ | ⟨_, c3, e', z⟩
        · have k' : X.env.scope.names.lookup y = some .local := k'
          rcases L.free _ (PySem.mem_of_lookup k) rfl with k2 | k2 <;> rw [show X.env.scope.names.lookup y = _ from k2] at k' <;> cases k'
        · rw [c1] at e'
          cases e'
          exact stays (I.freeC y _ c1) z
    · have hi2 : X.N.length ≤ i := Nat.le_of_not_lt hi
      rw [List.getElem?_append_right hi2] at e1
      rw [List.getElem?_append_right (by rw [I.len]; exact hi2), I.len] at e2
      cases hq : i - X.N.length with
      | succ q => rw [hq] at e1; simp at e1
      | zero =>
        rw [hq] at e1 e2
        cases e1
        cases e2
        exact ⟨u, rv, .inl ⟨L.par, by simp [List.lookup]⟩⟩
  · exact (I.cell y c (cm e)).elim fun w' z => ⟨w', stays (I.freeC y c (cm e)) z⟩
  · obtain ⟨v, o, ho, hd⟩ := I.cell y c (cm e)
    exact un.free c o ho (I.freeC y c (cm e)) (by simp)
end
end Ps
namespace Ps
open PySem PySem.Spec PyProof.Rows L2 LamX Vs He Pm
/-- the context of the def that gets it -/
abbrev ZC (X : Cx) (Ng : List Str) (qg : Str) (sg : Scope) (g : Addr) (cdg : Value) (s : Shared) (H : Hp) (Eg : XK) : Cx := cxOf (L2.CX X.prog X.w) X.prog X.w X.K X.mg X.base Ng qg sg g cdg X.A X.stack s H Eg
abbrev pA (w : Wd) (H : Hp) (i : Nat) (f : Addr) : Px := ⟨none, i, none, some (w, H, .ref f)⟩
section
variable {X : Cx} {pins : List (Addr × Obj)} {σ : L2.St} {H : Hp} {s : Shared}
/-- a(x), in the def that got the lambda, entered at s -/
theorem act_ok {Eg : XK} {Ng : List Str} {qg : Str} {sg : Scope} {g f c' : Addr} {cdg pm ctv : Value} {params : Arguments} {body : Expr} {scope : Scope} {k i : Nat} {a pn : Str} {W : WX} {p1 p2 : Pos} {p : Px} {w : Wd} {e : En} {mb m1 : ME} {e1 : Expr}
    (I : Inv X pins σ H s) (L : LamS1 X.env.scope scope X.N pn) (hf : s.heap.get? f = some (PySem.W.kla_obj "<lambda>" (X.env.qual ++ "<lambda>") params body scope (cloFrom X.env.cells scope.names []) pm c' ctv)) (hfn : H f = none) (hfr : f ∉ frs X.stack)
    (hco : w.G H c' = some (CodeO c' (X.env.qual ++ "<lambda>"))) (hbind : ∀ u : Value, bindArgs (PySem.W.kla_fn "<lambda>" (X.env.qual ++ "<lambda>") params body scope (cloFrom X.env.cells scope.names []) pm (.ref c') ctv) ⟨[u], []⟩ = pure [(pn, u)])
    (E : RelE X.K p w H e σ) (tk : Takes (ZC X Ng qg sg g cdg s H Eg) W) (hr : Room (k + 1) (X.A.deeper (envOfC qg sg s.heap.objs.size g cdg)))
    (hbody : ∀ (A : Around) (outer : List Env) (s5 : Shared) (H5 : Hp) (E5 : XK), Room k (A.deeper (lamEnv X scope s5.heap.objs.size f c')) → PE (lamC1 X A outer s5 H5 E5 scope pn f c') body (cE X.K p0 (wE E5) mb))
    (hN : Ng[i]? = some a) (hv : Vis sg a) (he : PE (ZC X Ng qg sg g cdg s H Eg) e1 (cE X.K (pA w H i f) W m1))
    (hd : (a == ("__debug__" : Str)) = false := by decide) (hcd : (a == ("__classdict__" : Str)) = false := by decide) (hse : starEach [e1] (ZC X Ng qg sg g cdg s H Eg).env = (false, eval e1 (ZC X Ng qg sg g cdg s H Eg).env) :: starEach [] (ZC X Ng qg sg g cdg s H Eg).env := by rfl) :
    PE (ZC X Ng qg sg g cdg s H Eg) (.Call (.Name a p1) [e1] [] p2) (cE X.K (pA w H i f) W (eCallF i (lamM mb e) m1)) := by
  refine ⟨fun pinsZ sZ σZ HZ Q IZ hz => ?_⟩
  obtain ⟨wz, ez, tz, Rz, Ez, h⟩ := hz
  obtain ⟨an1, an2, an3⟩ := Ez.an _ rfl
  have hs : σZ[i]? = some (some (.ref f)) := an3
  rw [eCallF_at] at h
  split at h
  · have rd : tCons (cE X.K (pA w H i f) W m1) tNil σZ HZ (fun vs H2 => ∃ (v : V) (d : Dx) (w2 : Wd) (t2 : Sto), vs = [v] ∧ Ext [] wz HZ w2 H2 ∧ Rel X.K w2 H2 t2 ∧ Rv X.K w2.r (w2.G H2) v d ∧ Fin X.K w2 H2 (Rv X.K) Q (WE W σZ) (lamM mb e [d] t2)) :=
      ⟨wz, ez, tz, Rz, Ez, Fin.bind h fun d t2 w2 H2 v x2 R2 r2 h2 => ⟨v, d, w2, t2, rfl, x2, R2, r2, h2⟩⟩
    refine wpAny_Call_Name_kw (thn ((pe_var (pos := p1) (i := i) hN hv hd hcd).run pinsZ sZ σZ HZ (fun v H1 => v = .ref f ∧ H1 = HZ) IZ ⟨.ref f, hs, rfl, rfl⟩) fun u s1 ⟨v, H1, I1, r1, q1⟩ => ?_)
    obtain ⟨ev, eH⟩ := q1
    subst ev
    rw [eH] at I1
    obtain rfl : u = Value.ref f := r1
    have of1 : s1.heap.get? f = some (PySem.W.kla_obj "<lambda>" (X.env.qual ++ "<lambda>") params body scope (cloFrom X.env.cells scope.names []) pm c' ctv) := I1.base.keep f _ hf hfn hfr (fun z => nomatch (show f ∈ ([] : List Addr) from z))
    refine PySem.W.callWith_F ⟨_, _, _, _, of1⟩ (thn ((pa_cons he pa_nil hse).run p2 pinsZ s1 σZ HZ _ I1 rd) fun us s2 ⟨vs, H2, I2, rv, q2⟩ => ?_) hse
    obtain ⟨v, d, w2, t2, evs, x2, R2, r2, h2⟩ := q2
    subst evs
    obtain ⟨u, eu, ru⟩ := vals1 rv
    subst eu
    have of2 : s2.heap.get? f = some (PySem.W.kla_obj "<lambda>" (X.env.qual ++ "<lambda>") params body scope (cloFrom X.env.cells scope.names []) pm c' ctv) := I2.base.keep f _ hf hfn hfr (fun z => nomatch (show f ∈ ([] : List Addr) from z))
    refine ⟨⟨_, _, _, _, of2⟩, ?_⟩
    show wpAny _ _ (call (.ref f) [u]) _ _ _
    have un : Un (frs X.stack) [] H H2 s.heap s2.heap := I2.base
    have hc2 : H2 c' = some (CodeO c' (X.env.qual ++ "<lambda>")) := (hid_some (x2.s _ _ (an1 _ _ hco))).2
    obtain ⟨⟨oc, cs, t, hoc, hdc, hvc⟩, _, _⟩ := I2.hok c' _ hc2
    have rc : codeAny (model X.prog X.w) (X.A.deeper (envOfC qg sg s.heap.objs.size g cdg)) (.call (.ref f) ⟨[u], []⟩) (CR (L2.CX X.prog X.w) (envOfC qg sg s.heap.objs.size g cdg :: X.stack) X.prog X.w H2 s2 Q (fun cls d H' => W cls d σZ H')) s2 := by
      refine PySem.W.kla_callFunE hr.depth of2 rfl L.co L.gen rfl ⟨c', oc, cs, t, rfl, hoc, hdc, hvc⟩ ?_
      rw [hbind]
      refine wpAny_pure (wpAny_newFunctionEnv L.cell (fun y hy => by rw [List.mem_singleton.mp hy]; exact L.par) (fun h₁ hns hsb => ⟨I2.nolimit.fresh _ hsb, ?_⟩) L.kind)
      show codeAny _ _ (.expr body (lamEnv X scope s2.heap.objs.size f c')) _ _
      have kp : ∀ b o, s2.heap.get? b = some o → h₁.get? b = some o := fun b o e => hsb.extBut b o (Nat.ne_of_lt (Heap.lt_size e)) (Heap.get?_push_of_some _ e)
      have J : Inv (lamC1 X (X.A.deeper (envOfC qg sg s.heap.objs.size g cdg)) (envOfC qg sg s.heap.objs.size g cdg :: X.stack) s2 H2 (fun cls d H' => W cls d σZ H') scope pn f c') [] (σ ++ [some v]) H2 { s2 with heap := h₁, toks := s2.toks + ([(pn, u)] : List (Str × Value)).length } :=
        lam_start1 I L I2.env0 hr.hd un hns kp ru
      have E2 : RelE X.K p0 w2 H2 ⟨e.sl ++ [some d], [], none⟩ (σ ++ [some v]) := by
        have sm : Same (w.G H) (w2.G H2) := Same.trans an1 x2.s
        have pr : Pre w.r w2.r := an2.trans x2.pre
        refine ⟨by simp [E.len], fun j u hu => ?_, trivial, rfl, fun _ z => by cases z⟩
        have hu : (e.sl ++ [some d])[j]? = some (some u) := hu
        by_cases hj : j < e.sl.length
        · rw [List.getElem?_append_left hj] at hu
          obtain ⟨v', h1, h2⟩ := E.sl j u hu
          exact ⟨v', by rw [List.getElem?_append_left (by rw [← E.len]; exact hj)]; exact h1, h2.mono sm pr⟩
        · rw [List.getElem?_append_right (Nat.le_of_not_lt hj)] at hu
          cases hq : j - e.sl.length with
          | succ q => rw [hq] at hu; simp at hu
          | zero =>
            rw [hq] at hu
            cases hu
            refine ⟨v, ?_, r2⟩
            rw [List.getElem?_append_right (by rw [← E.len]; exact Nat.le_of_not_lt hj), ← E.len, hq]
            rfl
      refine PySem.W.kla_codeExpr (wpAny_mono ((hbody _ _ s2 H2 _ (hr.deeper _)).run [] _ _ H2 Q J ⟨w2, _, t2, R2, E2, h2⟩) (fun v' s' hq => ?_) fun e' s' hq => hq)
      obtain ⟨w', H', J', rv', q⟩ := hq
      exact ⟨w', H', J'.os, J'.bare, J'.base, J'.hok, rv', q⟩
    refine wpAny_call (codeAny_mono rc fun r s' hq => ?_)
    cases r with
    | error e' => exact tk e' s' (L2.XE.of_call (W := W) I2 (fun _ _ _ z => z) hq)
    | ok fl =>
      cases fl with
      | ret u' => exact I2.after hq
      | next => exact False.elim hq
      | brk => exact False.elim hq
      | cont => exact False.elim hq
  · exact h.elim
end
end Ps
namespace Ps
open PySem PySem.Spec PyProof.Rows L2 LamX Vs He Pm
/-- how the entry of a def looks that gets such a function in slot i -/
theorem env_startA {K : PySem.W.Frag} {w : Wd} {H : Hp} {vs : List V} {ds : List Dx} {N : List Str} {n i : Nat} {f : Addr} (hN : N.length = n) (l : RvL K w.r (w.G H) vs ds) (hi : vs[i]? = some (.ref f)) : RelE K (pA w H i f) w H ⟨env0 n ds, [], none⟩ (L2.start N vs) := by
  have E := env_start (H := H) hN l
  refine ⟨E.len, E.sl, trivial, rfl, fun a ha => ?_⟩
  cases ha
  refine ⟨Same.refl _, Pre.refl _, ?_⟩
  have hl : i < vs.length := (List.getElem?_eq_some_iff.mp hi).1
  show (vs.map some ++ List.replicate (N.length - vs.length) none)[i]? = some (some (.ref f))
  rw [List.getElem?_append_left (by simpa using hl), List.getElem?_map, hi]
  rfl
theorem run_MA {K : PySem.W.Frag} {k n i : Nat} {f : Addr} {b : MS} {w : Wd} {ds : List Dx} {s : Sto} {vs : List V} {H : Hp} {Q : VK} {E : XK} {N : List Str} {bk ct : L2.St → Hp → Prop} (hN : N.length = n) (hi : vs[i]? = some (.ref f)) (R : Rel K w H s) (l : RvL K w.r (w.G H) vs ds)
    (h : Fin K w H (Rv K) Q E (mkF k n b ds s)) : cS K (pA w H i f) (wE E) b (Ends.mk (fun _ H' => Q .non H') Q bk ct) (L2.start N vs) H := by
  refine ⟨w, ⟨env0 n ds, [], none⟩, s, R, env_startA hN l hi, ?_⟩
  unfold mkF at h
  split at h
  · cases hr : b ⟨env0 n ds, [], none⟩ s with
    | nx e1 s1 => rw [hr] at h; exact fun w' H' σ' x R' E' => h w' H' .non x R' .non
    | rt v s1 => rw [hr] at h; exact fun w' H' v x R' r' => h w' H' v x R' r'
    | exc C fs e1 s1 => rw [hr] at h; exact fun w' H' σ' dx x R' E' hC rx => h w' H' dx x R' hC rx
    | bk e1 s1 => rw [hr] at h; exact h.elim
    | ct e1 s1 => rw [hr] at h; exact h.elim
    | stuck => rw [hr] at h; exact h.elim
  · exact h.elim
/-- a def that makes functions: its code object is told by name -/
theorem okC {P : Program} {w : World} {K : PySem.W.Frag} {mg : Str → Option Value} {base : Heap} {x qual : Str} {params : Arguments} {body : List Stmt} {scope : Scope} {dvs : List V} {kws : List (Str × V)} {at_ : Defn} {fd : FuncData} {CX : CXT} {N ps : List Str} {k : Nat} {sp : Sp}
    (F : FunD K x qual params body scope dvs kws (fAd K at_) fd) (S : FnScope N ps scope) (len : ∀ vs H Q E, sp vs H Q E → vs.length = ps.length)
    (hbody : ∀ (A : Around) (outer : List Env) (s : Shared) (H : Hp) (vs : List V) (Q : VK) (E : XK), Room k (A.deeper (envOfC qual scope s.heap.objs.size (fAd K at_) (.ref (codeOf K at_)))) → sp vs H Q E →
      ∃ t, PSs (cxOf CX P w K mg base N qual scope (fAd K at_) (.ref (codeOf K at_)) A outer s H E) body t ∧ t { nx := fun _ H' => Q .non H', rt := Q } (L2.start N vs) H) : FnOk P w K mg base CX (k + 1) (fAd K at_) fd ps sp := by
  obtain ⟨oc, od, dV, kV, doc, pm, an, cdv, ct, osl, rfl, lk, hcd, _, _⟩ := F.ex
  obtain ⟨c, rfl⟩ := codeIn_ref hcd
  have e := codeOf_eq lk rfl
  rw [e] at hbody
  exact fn_of lk hcd S len hbody
theorem set_self {α : Type} : ∀ {l : List α} {n : Nat} {c : α}, l[n]? = some c → l.set n c = l
  | [], _, _, h => by simp at h
  | _ :: _, 0, _, h => by simp at h; simp [h]
  | _ :: l, n + 1, _, h => by simp at h; simp [set_self h]
section
variable {X : Cx} {pins : List (Addr × Obj)} {σ : L2.St} {H : Hp} {s : Shared}
/-- the function is made: its code object is new, or found in the maker's table -/
theorem lam_make3 {w : Wd} {st : Sto} {n k : Nat} {c : Addr} {params : Arguments} {body : Expr} {scope : Scope} {pos : Pos} {E : Value → Shared → Prop} {Q : Value → Shared → Prop} (I : Inv X pins σ H s) (R : Rel X.K w H st) (hn : st[n]? = some (.tbl k)) (TB : TabB X.base X.mg c (tabA X.K k)) (hcode : X.env.code = .ref c)
    (hq : tabQ k = X.env.qual ++ "<lambda>") (hdef : defaultsOf params X.env = ([], [])) (hfree : ∀ y ∈ scope.names, y.2 = .free → ∃ c, X.env.cells.lookup y.1 = some c)
    (h : ∀ (f c' : Addr) (pm ctv : Value) (H1 : Hp) (s' : Shared), Inv X pins σ H1 s' → Rel X.K w H1 st → Ext [] w H w H1 →
      s'.heap.get? f = some (PySem.W.kla_obj "<lambda>" (X.env.qual ++ "<lambda>") params body scope (cloFrom X.env.cells scope.names []) pm c' ctv) → H1 f = none → f ∉ frs X.stack → w.G H1 c' = some (CodeO c' (X.env.qual ++ "<lambda>")) → Q (.ref f) s') :
    wpAny (model X.prog X.w) X.A (eval (.Lambda params body scope pos) X.env) Q E s := by
  obtain ⟨P, o, e1, hP, rc⟩ := R.ce n _ hn
  have eP := R.tb n k hn
  rw [e1] at eP
  cases eP
  cases rc with
  | tbl ht ha =>
    rename_i ps
    rw [hq] at ha
    refine PySem.W.kla_eval hdef ?_
    have bP : s.heap.BuiltinsAt X.mg (tabA X.K k) := TB.bm.keeps I.bk
    have hP' : s.heap.get? (tabA X.K k) = some { cls := .none, data := .fields ps } := I.hok _ _ hP
    have nofr : ∀ f, s.heap.objs.size ≤ f → f ∉ frs X.stack := fun f hf z => by
      rcases List.mem_cons.mp (I.stkSub _ z) with e | e
      · have h1 := I.lt
        rw [← e] at h1
        exact Nat.lt_irrefl _ (Nat.lt_of_lt_of_le h1 hf)
      · exact I.nofs hf e
    cases hc : codeAmong pos ps.toList with
    | none =>
      refine PySem.W.kla_makeFunction (mg := X.mg) (c := c) (P := tabA X.K k) (ps := ps) (closure_ok hfree) I.ok.glob (I.mod.glob.keeps I.bk) hcode (TB.code.keeps I.bk) hP' ht hc TB.gP bP fun c' ctv h' tk hx hge hlt hrec htb => ?_
      obtain ⟨c2, oc, vs, t, e2, hoc, hd, hv⟩ := hrec
      cases e2
      have hsz : s.heap.objs.size ≤ h'.objs.size := Nat.le_trans hge (Nat.le_of_lt hlt)
      have nC : H c' = none := I.hok.fresh hge
      have nPc : tabA X.K k ≠ c' := ne_of_none hP nC
      have I1 := inv_table (t' := tk) (more := #[rawInt pos.line, rawInt pos.col, .ref c']) (h' := h'.push (PySem.W.kla_obj "<lambda>" (X.env.qual ++ "<lambda>") params body scope (cloFrom X.env.cells scope.names []) ((X.mg "__name__").getD .none) c' ctv)) I hP
        (fun b o hb e => Heap.get?_push_of_some _ (hx b o hb e)) (Heap.get?_push_of_some _ htb) hge ⟨oc, vs, t, Heap.get?_push_of_some _ hoc, hd, hv⟩
      obtain ⟨R1, x1, g1⟩ := R.new nC (CodeO c' (X.env.qual ++ "<lambda>"))
      have eL : (ps ++ #[rawInt pos.line, rawInt pos.col, .ref c']).toList = ps.toList ++ [rawInt pos.line, rawInt pos.col, .ref c'] := by simp
      have rt : Rc X.K w.r (w.G (upd H c' (CodeO c' (X.env.qual ++ "<lambda>")))) (.tbl (ps ++ #[rawInt pos.line, rawInt pos.col, .ref c'])) (.tbl k) := by
        refine .tbl (by rw [eL]; exact PySem.TriplesOk_snoc _ _ _ _ ht) fun p' cv hcv => ?_
        rw [hq]
        rw [eL] at hcv
        rcases among_app _ ht hcv with z | z
        · obtain ⟨c0, e1, e2⟩ := ha p' cv z
          exact ⟨c0, e1, x1.s _ _ e2⟩
        · exact ⟨c', z, g1⟩
      obtain ⟨R2, x2⟩ := R1.put e1 rt (fun j hj => by cases hj; exact hn)
      rw [set_self hn] at R2
      have eH : upd (upd H c' (CodeO c' (X.env.qual ++ "<lambda>"))) (tabA X.K k) (.tbl (ps ++ #[rawInt pos.line, rawInt pos.col, .ref c'])) = upd (upd H (tabA X.K k) (.tbl (ps ++ #[rawInt pos.line, rawInt pos.col, .ref c']))) c' (CodeO c' (X.env.qual ++ "<lambda>")) := by
        funext b
        by_cases h1 : b = c'
        · rw [h1, upd_same, upd_ne (Ne.symm nPc), upd_same]
        · by_cases h2 : b = tabA X.K k
          · rw [h2, upd_same, upd_ne nPc, upd_same]
          · rw [upd_ne h2, upd_ne h1, upd_ne h1, upd_ne h2]
      have g2 := x2.s _ _ g1
      rw [eH] at R2 x2 g2
      refine h h'.objs.size c' ((X.mg "__name__").getD .none) ctv _ _ I1 R2 (x1.trans x2) (Heap.get?_push_size _ rfl) ?_ (nofr _ hsz) g2
      have n1 : h'.objs.size ≠ c' := Nat.ne_of_gt hlt
      have n2 : h'.objs.size ≠ tabA X.K k := Nat.ne_of_gt (Nat.lt_of_lt_of_le (Heap.lt_size hP') hsz)
      rw [upd_ne n1, upd_ne n2]
      exact I.hok.fresh hsz
    | some cv =>
      obtain ⟨c', e, hco⟩ := ha pos cv hc
      subst e
      refine PySem.W.kla_makeFunctionHit (mg := X.mg) (c := c) (P := tabA X.K k) (ps := ps) (closure_ok hfree) I.ok.glob (I.mod.glob.keeps I.bk) hcode (TB.code.keeps I.bk) hP' ht hc bP fun ctv h' tk hx hsz => ?_
      have I1 : Inv X pins σ H { s with heap := h'.push (PySem.W.kla_obj "<lambda>" (X.env.qual ++ "<lambda>") params body scope (cloFrom X.env.cells scope.names []) ((X.mg "__name__").getD .none) c' ctv), toks := tk } := I.kept fun b o e => Heap.get?_push_of_some _ (hx b o e)
      exact h h'.objs.size c' ((X.mg "__name__").getD .none) ctv H _ I1 R (Ext.refl _ _ _) (Heap.get?_push_size _ rfl) (I.hok.fresh hsz) (nofr _ hsz) hco
/-- x(e1, lambda pn: body) -/
theorem pe_hof {p : Px} {W : WX} {g c : Addr} {x a0 a pn : Str} {n k kk m : Nat} {pg : Arguments} {bg : List Stmt} {sg : Scope} {dvs : List V} {kws : List (Str × V)} {fd : FuncData} {Ng : List Str} {bm : MF → MS} {mb m1 : ME} {e1 : Expr}
    {params : Arguments} {body : Expr} {scope : Scope} {q lpos pos : Pos} (F : FunD X.K x x pg bg sg dvs kws g fd) (Sg : FnScope Ng [a0, a] sg) (hn : Ng.length = n) (hb : Binds X.K fd [a0, a] []) (hNa : Ng[1]? = some a) (hva : Vis sg a) (hg : Gl X x) (hm : X.mg x = some (.ref g))
    (TB : TabB X.base X.mg c (tabA X.K k)) (hcode : X.env.code = .ref c) (hq : tabQ k = X.env.qual ++ "<lambda>") (hr : Room (m + 1) X.A) (hkk : kk + 1 ≤ m) (L : LamS1 X.env.scope scope X.N pn) (hdef : defaultsOf params X.env = ([], []))
    (hbind : ∀ (q : Str) (cl : List (Str × Addr)) (pm cv ctv u : Value), bindArgs (PySem.W.kla_fn "<lambda>" q params body scope cl pm cv ctv) ⟨[u], []⟩ = pure [(pn, u)]) (tk : L2.Takes X W)
    (hbody : ∀ (A : Around) (outer : List Env) (s5 : Shared) (H5 : Hp) (E5 : XK) (f c' : Addr), Room kk (A.deeper (lamEnv X scope s5.heap.objs.size f c')) → PE (lamC1 X A outer s5 H5 E5 scope pn f c') body (cE X.K p0 (wE E5) mb))
    (hG : ∀ (r : MF) (cdg : Value) (s : Shared) (H : Hp) (E : XK) (w : Wd) (f : Addr), Room m (X.A.deeper (envOfC x sg s.heap.objs.size g cdg)) →
      (∀ {e1 : Expr} {m1 : ME} {p1 p2 : Pos}, PE (ZC X Ng x sg g cdg s H E) e1 (cE X.K (pA w H 1 f) (wE E) m1) → starEach [e1] (ZC X Ng x sg g cdg s H E).env = (false, eval e1 (ZC X Ng x sg g cdg s H E).env) :: starEach [] (ZC X Ng x sg g cdg s H E).env →
        PE (ZC X Ng x sg g cdg s H E) (.Call (.Name a p1) [e1] [] p2) (cE X.K (pA w H 1 f) (wE E) (eCallF 1 r m1))) → PSs (ZC X Ng x sg g cdg s H E) bg (cS X.K (pA w H 1 f) (wE E) (bm r)))
    (he : PE X e1 (cE X.K p W m1)) (hd : (a == ("__debug__" : Str)) = false := by decide) (hcd : (a == ("__classdict__" : Str)) = false := by decide) (hdb : (x == ("__debug__" : Str)) = false := by decide)
    (hse : starEach (e1 :: [.Lambda params body scope lpos]) X.env = (false, eval e1 X.env) :: starEach [.Lambda params body scope lpos] X.env := by rfl) :
    PE X (.Call (.Name x q) [e1, .Lambda params body scope lpos] [] pos) (cE X.K p W (eHof k (fun r => mkF 2 n (bm r)) mb m1)) := by
  refine ⟨fun pins s σ H Q I h => ?_⟩
  obtain ⟨w, e, st, R, E, h⟩ := h
  rw [eHof_at] at h
  refine wpAny_Call_Name_kw (ld_glob I hg hm ?_ hdb)
  refine PySem.W.callWith_K (h₀ := X.base) I.ok.mod.kin F.kp ?_ hse (by rfl)
  rw [hse]
  show wpAny _ _ (spliced ((false, eval e1 X.env) :: (false, eval (.Lambda params body scope lpos) X.env) :: backTo pos (starEach [] X.env))) _ _ s
  refine Calls.spliced_cons (thn (he.run pins s σ H (fun v H1 => ∃ d w1 t1, Ext [] w H w1 H1 ∧ Rel X.K w1 H1 t1 ∧ Rv X.K w1.r (w1.G H1) v d ∧ Fin X.K w1 H1 (Rv X.K) Q (WE W σ) (match t1[k]? with
    | some (.tbl j) => if j = k then mkF 2 n (bm (lamM mb e)) [d, .unk] t1 else .stuck
    | _ => .stuck)) I ⟨w, e, st, R, E, Fin.bind h fun d t1 w1 H1 v x1 R1 r1 h1 => ⟨d, w1, t1, x1, R1, r1, h1⟩⟩) fun u s1 ⟨v, H1, I1, ru, q1⟩ => ?_)
  obtain ⟨d, w1, t1, x1, R1, r1, h1⟩ := q1
  have E1 := E.ext x1
  split at h1
  · rename_i j hj
    split at h1
    · rename_i ej
      subst ej
      refine Calls.spliced_cons (lam_make3 I1 R1 hj TB hcode hq hdef (L.has I.ok) fun f c' pm ctv H2 s2 I2 R2 x2 hf hfn hfr hco => ?_)
      refine Calls.spliced_nil ⟨I2.kIn, ?_⟩
      have E2 := E1.ext x2
      have bt : BindsTo s2 fd ⟨[u, .ref f], []⟩ ([a0, a].zip [u, .ref f]) := hb s2 [u, .ref f] I2.kIn rfl
      obtain ⟨oc, od, dV, kV, doc, pm', an, cdv, ct, osl, rfl, lk, hcg, _, _⟩ := F.ex
      have rc : codeAny (model X.prog X.w) X.A (.call (.ref g) ⟨[u, .ref f], []⟩) (CR (L2.CX X.prog X.w) X.stack X.prog X.w H2 s2 Q (WE W σ)) s2 := by
        refine run_ofS (N := Ng) (ps := [a0, a]) (us := [u, .ref f]) (vs := [v, .ref f]) lk hcg Sg hr I2.env0 bt (.cons ru (.cons rfl .nil)) rfl fun hr' => ?_
        exact ⟨cS X.K (pA w1 H2 1 f) (wE (WE W σ)) (bm (lamM mb e)), hG (lamM mb e) cdv s2 H2 (WE W σ) w1 f hr' (fun he1 hs1 => act_ok I2 L hf hfn hfr hco (hbind _ _ _ _ _) E2 (takes_of rfl rfl rfl rfl) (hr'.mono hkk) (fun A outer s5 H5 E5 hr5 => hbody A outer s5 H5 E5 f c' hr5) hNa hva he1 hd hcd hs1),
          run_MA hn rfl R2 (.cons (r1.mono x2.s x2.pre) (.cons .unk .nil)) (Fin.ext h1 x2)⟩
      refine wpAny_call (codeAny_mono rc fun r s' hq => ?_)
      cases r with
      | error e' => exact passAt tk σ pins H2 s2 e' s' I2 hq
      | ok fl =>
        cases fl with
        | ret u => exact I2.after hq
        | next => exact False.elim hq
        | brk => exact False.elim hq
        | cont => exact False.elim hq
    · exact h1.elim
  · exact h1.elim
end
end Ps

/-! # soundness: sorted(set(xs)) of texts, of ints -/
namespace Ps
open PySem PySem.Spec PyProof.Rows L2 LamX Vs He Pm
section
variable {P : Program} {w : World} {κ : Type} [DecidableEq κ] {knd : PySem.KeyKind P w κ} {dec : Value → κ} {A : Around} {E : Value → Shared → Prop} {s : Shared} {a : Addr}
def keyG (dec : Value → κ) (e : Int × Value) : κ := dec e.2
/-- a set of the kind knd whose order is told; S: who is in it, at most n of them -/
def SetG (knd : PySem.KeyKind P w κ) (dec : Value → κ) (h : Heap) (a : Addr) (S : κ → Bool) (n : Nat) : Prop :=
  ∃ o es ep t, h.get? a = some o ∧ o.ExactSet ∧ o.data = .set es ep t ∧ ElemsOf knd es.toList ∧ (es.toList.map (keyG dec)).Nodup ∧ (∀ k, S k = true ↔ k ∈ es.toList.map (keyG dec)) ∧
    es.size ≤ n ∧ t.fits es.size = true ∧ Ris t.place.toList ∧ (w.params.followText "set-order" = true ∨ t.led = true)
theorem memG (hdec : ∀ k v, knd.is k v = true → dec v = k) {l : List (Int × Value)} (g : ElemsOf knd l) (k : κ) : k ∈ l.map (keyG dec) ↔ ∃ e ∈ l, knd.is k e.2 = true := by
  constructor
  · intro h
    obtain ⟨e, he, q⟩ := List.mem_map.mp h
    obtain ⟨⟨k2, i2, _⟩, _⟩ := g e he
    have : k2 = k := (hdec _ _ i2).symm.trans q
    exact ⟨e, he, this ▸ i2⟩
  · rintro ⟨e, he, i⟩
    exact List.mem_map.mpr ⟨e, he, hdec _ _ i⟩
/-- what is behind the laying of a new member -/
theorem tailG {g : Bool → Sem Unit} (hg : ∀ (b : Bool) (s1 : Shared) (Q1 : Unit → Shared → Prop), Q1 () s1 → wpAny (model P w) A (g b) Q1 E s1)
    {ob : Obj} {es : Array (Int × Value)} {ep : Nat} {t : SetTable} (hob : s.heap.get? a = some ob) (xs : ob.ExactSet) (dt : ob.data = .set es ep t)
    {eN : Array (Int × Value)} {tN : SetTable} {S' : κ → Bool} {n : Nat} (el : ElemsOf knd eN.toList) (un : (eN.toList.map (keyG dec)).Nodup) (mm : ∀ k, S' k = true ↔ k ∈ eN.toList.map (keyG dec))
    (le : eN.size ≤ n) (few : n < scanBound) (ft : tN.fits eN.size = true) (ri : Ris tN.place.toList) (ld : w.params.followText "set-order" = true ∨ tN.led = true) {wasDummy : Bool} {R : Option Bool → Shared → Prop}
    (hR : ∀ h', Heap.SameBut a s.heap h' → SetG knd dec h' a S' n → R (some true) { s with heap := h' }) :
    wpAny (model P w) A (do
        storeSet a eN tN
        if (!wasDummy && tN.tooFull) = true then do
            g (relayAll tN eN (SetTable.grown eN.size)).2.2
            storeSet a (relayAll tN eN (SetTable.grown eN.size)).1 (relayAll tN eN (SetTable.grown eN.size)).2.1
            pure (some true)
          else pure (some true)) R E s := by
  have fw : eN.size < scanBound := by omega
  refine wpAny_bind (wpAny_storeSet_of hob dt ?_ (fits_of_scanBound fw))
  have hob2 := store_at (es' := eN) (t' := tN) hob dt
  have same1 := Heap.SameBut.update s.heap a (Obj.putSet eN tN)
  split
  · have p1 := relayAll_perm tN eN (SetTable.grown eN.size)
    have p2 := relayAll_fits tN eN (SetTable.grown eN.size)
    have p3 := relayAll_ris tN eN (SetTable.grown eN.size)
    have p4 := relayAll_led tN eN (SetTable.grown eN.size)
    generalize relayAll tN eN (SetTable.grown eN.size) = Y at p1 p2 p3 p4 ⊢
    obtain ⟨eM, tM, gw⟩ := Y
    dsimp only at p1 p2 p3 p4 ⊢
    have sz : eM.size = eN.size := by rw [← Array.length_toList, p1.length_eq, Array.length_toList]
    refine wpAny_bind (hg _ _ _ ?_)
    refine wpAny_bind (wpAny_storeSet_of hob2 rfl ?_ (fits_of_scanBound (by omega)))
    have hob3 := store_at (es' := eM) (t' := tM) hob2 rfl
    refine wpAny_pure (hR _ (same1.trans (Heap.SameBut.update _ a _)) ?_)
    exact ⟨_, eM, _, tM, hob3, xs, rfl, fun e he => el e (p1.mem_iff.mp he), (p1.map (keyG dec)).nodup_iff.mpr un, fun k => (mm k).trans (p1.map (keyG dec)).mem_iff.symm, by omega, p2, p3,
      ld.imp id fun z => by rw [p4]; exact z⟩
  · exact wpAny_pure (hR _ same1 ⟨_, eN, _, tN, hob2, xs, rfl, el, un, mm, le, ft, ri, ld⟩)
theorem addG (hdec : ∀ k v, knd.is k v = true → dec v = k) {S : κ → Bool} {n : Nat} {k : κ} {x : Value} {Q : Bool → Shared → Prop} (kx : knd.is k x = true) (sx : x.scannable = true) (R : SetG knd dec s.heap a S n) (room : n + 1 < scanBound)
    (hQ : ∀ h' b, Heap.SameBut a s.heap h' → SetG knd dec h' a (fun j => S j || decide (j = k)) (n + 1) → Q b { s with heap := h' }) :
    wpAny (model P w) A (setAddHashed a x (knd.hash k)) Q E s := by
  obtain ⟨ob, es, ep, t, hob, xs, dt, el, un, mm, le, ft, ri, ld⟩ := R
  unfold setAddHashed setAddHashedIn
  refine wpAny_holding (wpAny_bind (wpAny_setState_of hob dt ft ?_))
  dsimp only
  rw [byScan_of sx (by omega) el]
  simp only [↓reduceIte]
  unfold setAddByScan
  refine wpAny_bind ?_
  refine wpAny_bind (wpAny_rule ?_)
  refine wpAny_bind (wpAny_setScan_of kx hob dt ft el ?_)
  cases fi : List.findIdx? (fun e => knd.is k e.2) es.toList with
  | some j =>
    dsimp only
    obtain ⟨hj, pj, _⟩ := List.findIdx?_eq_some_iff_getElem.mp fi
    have inS : S k = true := (mm k).2 ((memG hdec el k).2 ⟨es.toList[j], List.getElem_mem hj, pj⟩)
    refine wpAny_pure (wpAny_pure ?_)
    exact hQ s.heap _ (Heap.SameBut.refl a s.heap) ⟨ob, es, ep, t, hob, xs, dt, el, un, fun i => by
      rw [Bool.or_eq_true, decide_eq_true_eq, ← mm i]
      exact ⟨fun z => z.elim id (fun e => e ▸ inS), .inl⟩, by omega, ft, ri, ld⟩
  | none =>
    dsimp only
    have nk : k ∉ es.toList.map (keyG dec) := fun z => by
      obtain ⟨e, he, q⟩ := (memG hdec el k).1 z
      have c := List.findIdx?_eq_none_iff.mp fi e he
      rw [q] at c
      cases c
    have gw : ∀ (b : Bool) {s1 : Shared} {Q1 : Unit → Shared → Prop}, Q1 () s1 → wpAny (model P w) A (match b with | true => rule "set.scan.the-table-gave-way" | false => pure ()) Q1 E s1 :=
      fun b s1 Q1 q => by cases b <;> first | exact wpAny_pure q | exact wpAny_rule q
    have p1 := layNew_perm t es (knd.hash k) x
    have p2 := layNew_fits t es (knd.hash k) x
    have p3 := layNew_ris t es (knd.hash k) x ri
    have p4 := layNew_led t es (knd.hash k) x
    generalize layNew t es (knd.hash k) x = Y at p1 p2 p3 p4 ⊢
    obtain ⟨eN, tN, wasDummy, gave⟩ := Y
    dsimp only at p1 p2 p3 p4 ⊢
    rw [Array.toList_push] at p1
    have pc : eN.toList.Perm ((knd.hash k, x) :: es.toList) := p1.trans (List.perm_append_singleton _ _)
    have pk : (eN.toList.map (keyG dec)).Perm (k :: es.toList.map (keyG dec)) := by
      have q := pc.map (keyG dec)
      rw [List.map_cons] at q
      rw [show keyG dec (knd.hash k, x) = k from hdec _ _ kx] at q
      exact q
    have el1 : ElemsOf knd eN.toList := fun e he => by
      rcases List.mem_cons.mp (pc.mem_iff.mp he) with z | z
      · rw [z]; exact ⟨⟨k, kx, rfl⟩, sx⟩
      · exact el e z
    have un1 : (eN.toList.map (keyG dec)).Nodup := pk.nodup_iff.mpr (List.nodup_cons.mpr ⟨nk, un⟩)
    have mm1 : ∀ i, (S i || decide (i = k)) = true ↔ i ∈ eN.toList.map (keyG dec) := fun i => by
      rw [Bool.or_eq_true, decide_eq_true_eq, mm i, pk.mem_iff, List.mem_cons]
      exact Or.comm
    have sz : eN.size ≤ n + 1 := by rw [← Array.length_toList, pc.length_eq, List.length_cons, Array.length_toList]; omega
    have ld1 : w.params.followText "set-order" = true ∨ tN.led = true := ld.imp id fun z => by rw [p4]; exact z
    have fin : ∀ h', Heap.SameBut a s.heap h' → SetG knd dec h' a (fun j => S j || decide (j = k)) (n + 1) → Q true { s with heap := h' } := fun h' sb r => hQ h' _ sb r
    refine wpAny_bind (gw _ ?_)
    split
    · refine wpAny_bind ?_
      rw [hashByValue_scannable 8 sx]
      refine wpAny_pure ?_
      refine tailG (n := n + 1) ?_ hob xs dt el1 un1 mm1 sz room ?_ ?_ ?_ ?_
      · intro b s1 Q1 q; cases b <;> first | exact wpAny_pure q | exact wpAny_rule q
      · first | (split <;> first | exact p2 | exact SetTable.fits_plain_off p2) | exact p2
      · first | (split <;> exact p3) | exact p3
      · first | (split <;> exact ld1) | exact ld1
      · intro h' sb r; dsimp only; exact wpAny_pure (fin h' sb r)
    · refine wpAny_bind (wpAny_pure ?_)
      simp only [↓reduceIte]
      refine tailG (n := n + 1) ?_ hob xs dt el1 un1 mm1 sz room p2 p3 ld1 ?_
      · intro b s1 Q1 q; cases b <;> first | exact wpAny_pure q | exact wpAny_rule q
      · intro h' sb r; dsimp only; exact wpAny_pure (fin h' sb r)
theorem SetG.same {h h' : Heap} {S : κ → Bool} {n : Nat} (R : SetG knd dec h a S n) (k : ∀ o, h.get? a = some o → h'.get? a = some o) : SetG knd dec h' a S n := by
  obtain ⟨o, es, ep, t, ho, more⟩ := R
  exact ⟨o, es, ep, t, k _ ho, more⟩
theorem SetG.imp {h : Heap} {S S' : κ → Bool} {n : Nat} (R : SetG knd dec h a S n) (e : ∀ k, S' k = S k) : SetG knd dec h a S' n := by
  obtain ⟨o, es, ep, t, ho, x1, x2, x3, x4, x5, more⟩ := R
  exact ⟨o, es, ep, t, ho, x1, x2, x3, x4, fun k => by rw [e]; exact x5 k, more⟩
/-- all that is walked goes into the set at T -/
theorem fillG (hdec : ∀ k v, knd.is k v = true → dec v = k) {A : Around} {R : Result → Shared → Prop} {I : Addr} {fp wr : List Addr} {G : Array GenState → Array GenState → Prop} {n : Nat} {Pv : Nat → Value → Prop} {St : Nat → Shared → Prop}
    (W : WalksS P w A.in1 I fp wr G n Pv St) (T : Addr) (off : T ∉ fp) (ks : List κ) (item : ∀ i v, i < n → Pv i v → ∃ k, ks[i]? = some k ∧ knd.is k v = true ∧ v.scannable = true) (few : n + 1 < scanBound) :
    ∀ (left i : Nat) (s : Shared), n - i = left → i ≤ n → St i s → SetG knd dec s.heap T (fun k => decide (k ∈ ks.take i)) i →
      (∀ s', Moved (T :: wr) G s s' → SetG knd dec s'.heap T (fun k => decide (k ∈ ks.take n)) n → R (.ok (.ret .none)) s') →
      codeAny (model P w) A (.builtin "set.update.loop" ⟨[.ref T, .ref I], []⟩) R s
  | 0, i, s, e, le, st, hS, q => by
    obtain rfl : i = n := by omega
    refine codeAny_builtin F.entry_set_update_loop (by
      rw [Around.under_plainId F.plain_set_update_loop _]
      refine wpAny_bind (W.done s _ _ st fun s1 mv => ?_)
      have hT1 := hS.same (h' := s1.heap) fun o ho => mv.heap T _ (fun z => off (W.sub _ z)) ho
      show wpAny _ A.in1 (ret Value.none) _ _ s1
      exact wpAny_pure (q s1 (mv.mono fun b hb => List.mem_cons_of_mem _ hb) hT1))
  | left + 1, i, s, e, le, st, hS, q => by
    have lt : i < n := by omega
    refine codeAny_builtin F.entry_set_update_loop (by
      rw [Around.under_plainId F.plain_set_update_loop _]
      refine wpAny_bind (W.item i s _ _ lt st fun v s1 pv st1 mv => ?_)
      obtain ⟨k, hk, kv, sc⟩ := item i v lt pv
      have hT1 := hS.same (h' := s1.heap) fun o ho => mv.heap T _ (fun z => off (W.sub _ z)) ho
      show wpAny _ A.in1 (holding [v] (setAdd T v) >>= _) _ _ s1
      refine wpAny_bind (wpAny_holding ?_)
      unfold setAdd
      refine wpAny_holding (wpAny_bind (knd.pyHash kv ?_))
      refine addG hdec (s := { s1 with toks := s1.toks + 1 }) kv sc hT1 (by omega) fun h2 b2 sb hT2 => ?_
      have e2 : ks.take (i + 1) = ks.take i ++ [k] := by rw [List.take_add_one, hk]; rfl
      have hT3 : SetG knd dec h2 T (fun k => decide (k ∈ ks.take (i + 1))) (i + 1) := hT2.imp fun j => by
        rw [e2]
        by_cases z : j = k
        · subst z; simp
        · simp [z]
      refine wpAny_pure ⟨plainId_quiet F.plain_set_update_loop _, fillG hdec W T off ks item few left (i + 1) _ (by omega) lt (W.frame _ s1 _ _ st1 (Nat.le_succ _) fun b hb o z => ?_) hT3 fun s2 mv2 hT4 => q s2 ?_ hT4⟩
      · exact (sb.2 b fun y => off (y ▸ hb)).trans z
      · refine Moved.trans W.gtrans ((mv.mono fun b hb => List.mem_cons_of_mem _ hb).then_heap (Nat.le_succ _) fun b o nb z => ?_) mv2
        exact (sb.2 b fun y => nb (y ▸ List.mem_cons_self)).trans z)
theorem new_led1 (x : Value) {Q1 : Value → Shared → Prop}
    (h : Q1 (.ref s.heap.objs.size) { s with heap := s.heap.push { cls := .type "set", dict := none, data := .set #[] 0 (.fresh 0 0 (!w.params.followText "set-order")) } }) :
    codeAny (model P w) A (.call (.builtin "set.__new__") ⟨[.type "set", x], []⟩) (wants Q1 E) s := by
  refine codeAny_of_tree (show wpAny _ A.in1 (do checkBuiltinCall "set.__new__" ⟨[.type "set", x], []⟩; again (.builtin "set.__new__" ⟨[.type "set", x], []⟩)) _ _ s from
    wpAny_bind (wpAny_of_eq (PySem.F.newCall_set_1 x) (wpAny_pure ⟨plainId_quiet PySem.F.plain_set_new _, codeAny_builtin PySem.F.entry_set_new ?_⟩)))
  rw [Around.under_plainId PySem.F.plain_set_new _]
  unfold Builtin.«set.__new__» Builtin.Frozenset.newClass
  have k0 := PySem.sub_set_self
  obtain ⟨hh, gg, dd, tk, os⟩ := s
  dsimp only
  wp_walk
  refine wpAny_askSetting (wpAny_pure ?_)
  dsimp only
  simp only [newObj]
  exact wpAny_bind (wpAny_alloc (wpAny_pure (wpAny_pure h)))
/-- set(xs), its order told -/
theorem setG (hdec : ∀ k v, knd.is k v = true → dec v = k) {A : Around} {E : Value → Shared → Prop} {s : Shared} {l : Addr} {its : Array Value} (ks : List κ) {Q : Value → Shared → Prop} (hd : A.handled = none) (hl : s.heap.IsList l its)
    (item : ∀ (i : Nat) (v : Value), its[i]? = some v → ∃ k, ks[i]? = some k ∧ knd.is k v = true ∧ v.scannable = true) (few : its.size + 1 < scanBound)
    (q : ∀ (h2 : Heap) (tk : Nat), SetG knd dec h2 s.heap.objs.size (fun k => decide (k ∈ ks.take its.size)) its.size → (∀ b o, b < s.heap.objs.size → s.heap.get? b = some o → h2.get? b = some o) → Q (.ref s.heap.objs.size) { s with heap := h2, toks := tk }) :
    wpAny (model P w) A (call (.type "set") [.ref l]) Q E s := by
  obtain ⟨c, tl, hmro⟩ := PySem.F.called_set.mro
  have k1 := PySem.F.called_set.made
  have k2 := PySem.F.called_set.sub
  have k3 := PySem.F.called_set.notType
  have k4 := PySem.F.called_set.canCreate
  have k5 := PySem.F.typeCall_set_1 (.ref l)
  refine wpAny_call (codeAny_of_tree (show wpAny _ _ (callAny (.type "set") _) _ _ _ from wpAny_pure ⟨Code.quiet_builtin _ (by decide +kernel), codeAny_builtin PySem.F.entry_type_call ?_⟩))
  rw [Around.under_plain (weight_type_call_type "set" [.ref l] []) rfl]
  repeat (any_goals (first | assumption | wp_step))
  let fresh : Obj := { cls := .type "set", dict := none, data := .set #[] 0 (.fresh 0 0 (!w.params.followText "set-order")) }
  refine codeAny_mono (new_led1 (.ref l) (E := E) (Q1 := fun ob s1 => ob = .ref s.heap.objs.size ∧ s1 = { s with heap := s.heap.push fresh }) ⟨rfl, rfl⟩) fun r s1 hr => ?_
  match r, hr with
  | .error e, hr => exact hr
  | .ok .next, hr => exact hr.elim
  | .ok .brk, hr => exact hr.elim
  | .ok .cont, hr => exact hr.elim
  | .ok (.ret ob), hr =>
    obtain ⟨rfl, rfl⟩ := hr
    have at0 : (s.heap.push fresh).get? s.heap.objs.size = some fresh := Heap.get?_push_size _ rfl
    have ty : Shared.TypeIs { s with heap := s.heap.push fresh } (.ref s.heap.objs.size) "set" := ⟨_, at0, rfl⟩
    have k6 := PySem.F.called_set.init.lookup
    have k7 := PySem.F.called_set.init.bind (.ref s.heap.objs.size)
    repeat (any_goals (first | assumption | wp_step))
    refine codeAny_mono (codeAny_call_builtin (R := wants (fun r s2 => r = .none ∧ ∃ h2 tk, s2 = { s with heap := h2, toks := tk } ∧ SetG knd dec h2 s.heap.objs.size (fun k => decide (k ∈ ks.take its.size)) its.size ∧
        (∀ b o, b < s.heap.objs.size → s.heap.get? b = some o → h2.get? b = some o)) E) PySem.F.called_set.init.plain PySem.F.entry_set_init (check_set_init_1 ty ?_)) fun r2 s2 hr2 => ?_
    · obtain ⟨⟨oc, od, ot, os⟩, ho, hc, nl, hdt⟩ := hl
      simp only at hc hdt
      subst hc hdt
      have ho1 : (s.heap.push fresh).get? l = some { cls := .type "list", dict := od, data := .seq its nl, slots := os } := Heap.get?_push_of_some _ ho
      have k8 := PySem.F.sub_list_set
      have k9 := PySem.F.sub_list_frozenset
      have k10 : (Value.type "list" == Value.type "dict") = false := by decide
      have hl1 : (s.heap.push fresh).IsList l its := ⟨_, ho1, rfl, nl, rfl⟩
      unfold Builtin.«set.__init__» noKeywords Builtin.Frozenset.updateFrom
      generalize hPI : pyIter = PI
      wp_walk
      subst hPI
      refine wpAny_pyIter_list hl1 (wpAny_bind (wpAny_runValue ?_))
      have lt : l < s.heap.objs.size := Heap.lt_size ho
      have hd3 : A.in1.in1.in1.handled = none := by simp [hd]
      have sz : (s.heap.push fresh).objs.size = s.heap.objs.size + 1 := Heap.size_push ..
      have ne1 : l ≠ (s.heap.push fresh).objs.size := by rw [sz]; exact Nat.ne_of_lt (Nat.lt_succ_of_lt lt)
      have off : s.heap.objs.size ∉ [(s.heap.push fresh).objs.size, l] := by
        rw [sz]
        simp only [List.mem_cons, List.not_mem_nil, or_false, not_or]
        exact ⟨Nat.ne_of_lt (Nat.lt_succ_self _), Nat.ne_of_gt lt⟩
      refine fillG hdec ((Walks.list hd3 _ l ne1 its).toS) s.heap.objs.size off ks (fun i v _ pv => item i v pv) few (its.size - 0) 0 _ (by omega) (Nat.zero_le _) ⟨⟨_, Heap.get?_push_size _ rfl, rfl, rfl⟩, (hl1.push _)⟩ ?_ fun s3 mv hS => ?_
      · have at1 : ((s.heap.push fresh).push { cls := .type "list_iterator", data := .fields #[.ref l, .int 0 0] }).get? s.heap.objs.size = some fresh := Heap.get?_push_of_some _ at0
        exact ⟨_, #[], 0, _, at1, ⟨rfl, rfl, rfl⟩, rfl, (fun e he => by simp at he), (by simp), (fun k => by simp), Nat.le_refl _, (by rfl), List.Pairwise.nil, by
          show _ ∨ (!w.params.followText "set-order") = true
          cases w.params.followText "set-order"
          · exact .inr rfl
          · exact .inl rfl⟩
      · obtain ⟨h3, g3, d3, tk3, os3⟩ := s3
        have e1 : g3 = s.gens := mv.gens
        have e2 : d3 = s.drawn := mv.drawn
        have e3 : os3 = s.os := mv.os
        subst e1 e2 e3
        show wpAny _ _ _ _ _ _
        refine wpAny_pure (show wpAny _ _ (ret Value.none) _ _ _ from wpAny_pure ⟨rfl, h3, tk3, rfl, hS, fun b o hb z => ?_⟩)
        refine mv.heap b o ?_ (Heap.get?_push_of_some _ (Heap.get?_push_of_some _ z))
        simp only [List.mem_cons, List.not_mem_nil, or_false, not_or]
        exact ⟨Nat.ne_of_lt hb, by rw [sz]; exact Nat.ne_of_lt (Nat.lt_succ_of_lt hb)⟩
    · match r2, hr2 with
      | .error e, hr2 => exact hr2
      | .ok .next, hr2 => exact hr2.elim
      | .ok .brk, hr2 => exact hr2.elim
      | .ok .cont, hr2 => exact hr2.elim
      | .ok (.ret r), hr2 =>
        obtain ⟨rfl, h2, tk, rfl, hS, kp⟩ := hr2
        repeat (any_goals (first | assumption | wp_step))
        exact q _ _ hS kp
/-- the set sorted: what stands in the new list is told by the sorting law L -/
theorem sortG {β : Type} {Are : List Value → List β → Prop} {A : Around} {E : Value → Shared → Prop} {s : Shared} {a : Addr} {S : κ → Bool} {n : Nat} {Q : Value → Shared → Prop} (R : SetG knd dec s.heap a S n) (hh : A.handled = none) (few : n < scanBound)
    (L : ∀ (vs : List Value) (s1 : Shared) (b : Addr) (m : Nat) (A1 : Around) (P1 : PySem.Fin → Shared → Prop), (∀ v ∈ vs, ∃ k, knd.is k v = true) → vs.length ≤ sizeLine → s1.heap.get? b = some (seqObj "list" vs.toArray m) →
      (∀ (out : Array Value) (zs : List β), Are out.toList zs → (out.toList.map dec).Perm (vs.map dec) → P1 (.done (.ret .none)) { s1 with heap := sortedHeap s1.heap b vs out }) → wpAny (model P w) A1 (Builtin.«list.sort» ⟨[.ref b], []⟩) P1 E s1)
    (hQ : ∀ s' p (out : Array Value) (c : Nat) (zs : List β), (∀ b o, s.heap.get? b = some o → s'.heap.get? b = some o) → s'.gens = s.gens → s'.os = s.os → s.heap.objs.size ≤ p →
      s'.heap.get? p = some (seqObj "list" out c) → Are out.toList zs → (out.toList.map dec).Nodup → (∀ k, S k = true ↔ k ∈ out.toList.map dec) → out.size ≤ n → Q (.ref p) s') :
    wpAny (model P w) A (call (.builtin "sorted") [.ref a]) Q E s := by
  obtain ⟨ob, es, ep, t, hob, xs, dt, el, un, mm, le, ft, ri, ld⟩ := R
  refine Calls.call_function_entry kind_sorted plain_sorted entry_sorted (args_sorted1 _) ?_
  unfold Builtin.«sorted»
  refine wpAny_bind (m := checkCount "sorted" 1 1 _) (wpAny_pure (wpAny_bind (collect_set (A := A.in1) hh ⟨ob, hob, xs.1, dt⟩ ft (by omega) ri ld fun s1 vs kp sz gg oo pm => ?_)))
  have len : vs.length = es.size := by rw [pm.length_eq, List.length_map, Array.length_toList]
  have fit : vs.length ≤ sizeLine := by
    have z : scanBound ≤ sizeLine := by decide +kernel
    omega
  refine wpAny_bind (wpAny_newList ?_ fit)
  have at1 : (s1.heap.push (seqObj "list" vs.toArray 0)).get? s1.heap.objs.size = some (seqObj "list" vs.toArray 0) := Heap.get?_push_size _ rfl
  refine wpAny_bind (wpAny_holding (wpAny_call_entry slot_list_sort ⟨_, at1, rfl⟩ entry_list_sort (L vs _ _ 0 _ _ (fun v hv => ?_) fit at1 fun out zs az po => ⟨_, rfl, ?_⟩) (args_list_sort _)))
  · obtain ⟨e, he, q⟩ := List.mem_map.mp (pm.mem_iff.mp hv)
    obtain ⟨⟨k, h1, _⟩, _⟩ := el e he
    exact ⟨k, q ▸ h1⟩
  · obtain ⟨c, hc⟩ := sortedHeap_at (vs := vs) (out := out) at1
    have pk : (out.toList.map dec).Perm (es.toList.map (keyG dec)) := by
      have q := pm.map dec
      rw [List.map_map] at q
      exact po.trans q
    refine wpAny_pure ⟨_, rfl, hQ _ s1.heap.objs.size out c zs (fun b u e => ?_) gg oo sz hc az (pk.nodup_iff.mpr un) (fun k => by rw [pk.mem_iff]; exact mm k) ?_⟩
    · have q := kp b u e
      have hlt := Heap.lt_size q
      show (sortedHeap (s1.heap.push (seqObj "list" vs.toArray 0)) s1.heap.objs.size vs out).get? b = some u
      rw [sortedHeap_old (Nat.ne_of_lt hlt) (by rw [size_push']; exact Nat.lt_succ_of_lt hlt)]
      exact Heap.get?_push_of_some _ q
    · have z := po.length_eq
      rw [List.length_map, List.length_map, Array.length_toList] at z
      rw [z, len]; exact le
end
end Ps
namespace Ps
open PySem PySem.Spec PyProof.Rows L2 LamX Vs He Pm
def decI : Value → Int
  | .int k _ => k
  | _ => 0
theorem isInt_is {P : Program} {w : World} {k : Int} {v : Value} (h : (PySem.intKind P w).is k v = true) : ∃ t, v = .int k t := by
  have h : Value.isInt k v = true := h
  cases v <;> simp [Value.isInt] at h
  subst h
  exact ⟨_, rfl⟩
theorem decI_eq {P : Program} {w : World} : ∀ k v, (PySem.intKind P w).is k v = true → decI v = k := fun k v h => by
  obtain ⟨t, rfl⟩ := isInt_is h
  rfl
theorem decS_eq {P : Program} {w : World} : ∀ k v, (PySem.strKind P w).is k v = true → strOf v = k := fun k v h => by
  obtain ⟨t, rfl⟩ := Value.isStrOf_shape h
  rfl
theorem ints_dec : ∀ {vs : List Value} {ns : List Int}, IntsAre vs ns → vs.map decI = ns
  | _, _, .nil => rfl
  | _, _, .cons n t h => by rw [List.map_cons, ints_dec h]; rfl
theorem ints_all : ∀ (vs : List Value), (∀ v ∈ vs, ∃ k t, v = Value.int k t) → IntsAre vs (vs.map decI)
  | [], _ => .nil
  | v :: vs, h => by
    obtain ⟨k, t, rfl⟩ := h v List.mem_cons_self
    exact .cons k t (ints_all vs fun u hu => h u (List.mem_cons_of_mem _ hu))
theorem ints_item : ∀ {zs : List Int} {us : List Value}, Vals (zs.map V.int) us → ∀ (i : Nat) (v : Value), us[i]? = some v → ∃ z t, zs[i]? = some z ∧ v = .int z t
  | [], _, .nil, i, v, e => by simp at e
  | z :: zs, _, .cons r t, 0, v, e => by
    obtain ⟨k, rfl⟩ := r
    simp at e
    exact ⟨z, k, by simp, e.symm⟩
  | z :: zs, _, .cons r t, i + 1, v, e => by
    simp only [List.getElem?_cons_succ] at e ⊢
    exact ints_item t i v e
section
variable {P : Program} {w : World} {A : Around} {E : Value → Shared → Prop}
theorem law_ints (vs : List Value) (s1 : Shared) (b : Addr) (m : Nat) (A1 : Around) (P1 : PySem.Fin → Shared → Prop) (hv : ∀ v ∈ vs, ∃ k, (PySem.intKind P w).is k v = true) (fit : vs.length ≤ sizeLine) (hb : s1.heap.get? b = some (seqObj "list" vs.toArray m))
    (q : ∀ (out : Array Value) (zs : List Int), (IntsAre out.toList zs ∧ zs.Pairwise (· ≤ ·)) → (out.toList.map decI).Perm (vs.map decI) → P1 (.done (.ret .none)) { s1 with heap := sortedHeap s1.heap b vs out }) :
    wpAny (model P w) A1 (Builtin.«list.sort» ⟨[.ref b], []⟩) P1 E s1 :=
  list_sort_treeAny hb (ints_all vs fun v h => (hv v h).elim fun k z => (isInt_is z).elim fun t e => ⟨k, t, e⟩) fit fun out ns' h1 h2 h3 => q out ns' ⟨h1, h3⟩ (by rw [ints_dec h1]; exact h2)
theorem law_strs (vs : List Value) (s1 : Shared) (b : Addr) (m : Nat) (A1 : Around) (P1 : PySem.Fin → Shared → Prop) (hv : ∀ v ∈ vs, ∃ k, (PySem.strKind P w).is k v = true) (fit : vs.length ≤ sizeLine) (hb : s1.heap.get? b = some (seqObj "list" vs.toArray m))
    (q : ∀ (out : Array Value) (zs : List Str), (StrsAre out.toList zs ∧ sortedS zs = true) → (out.toList.map strOf).Perm (vs.map strOf) → P1 (.done (.ret .none)) { s1 with heap := sortedHeap s1.heap b vs out }) :
    wpAny (model P w) A1 (Builtin.«list.sort» ⟨[.ref b], []⟩) P1 E s1 := by
  have S : StrsAre vs (vs.map strOf) := strsAre_map vs fun v h => (hv v h).elim fun k z => (Value.isStrOf_shape z).elim fun t e => ⟨k, t, e⟩
  refine list_sort_treeKAny strKind_oneLt hb S.keysOf (fun v1 v2 rest e => keyKind_strs (by rw [← e]; exact S)) fit fun st' hp hs => ?_
  obtain ⟨ss', h1, h2, h3⟩ := sorted_out_str S hp hs
  exact q _ ss' ⟨h1, h3⟩ (by rw [h1.strs]; exact h2)
end
def tSortSet (K : PySem.W.Frag) (t : TE) : TE := fun σ H Q => t σ H fun x H1 => ∃ a, x = .ref a ∧
  ((∃ zs : List Str, SqL K H1 a (zs.map V.str) ∧ zs.length ≤ 2000 ∧ ∀ ys p, ys.Nodup → sortedS ys = true → (∀ k, k ∈ ys ↔ k ∈ zs) → H1 p = none → Q (.ref p) (upd H1 p (.lst (ys.map V.str)))) ∨
   (∃ ns : List Int, SqL K H1 a (ns.map V.int) ∧ ns.length ≤ 2000 ∧ ∀ (ms : List Int) p, ms.Pairwise (· < ·) → (∀ k, k ∈ ms ↔ k ∈ ns) → H1 p = none → Q (.ref p) (upd H1 p (.lst (ms.map V.int)))))
theorem inv_laid {X : Cx} {pins : List (Addr × Obj)} {σ : L2.St} {H : Hp} {s s' : Shared} {p : Addr} {xs : List V} {out : Array Value} {c : Nat} (J : Inv X pins σ H s) (k : ∀ b o, s.heap.get? b = some o → s'.heap.get? b = some o) (g : s'.gens = s.gens) (o : s'.os = s.os) (hp : s.heap.objs.size ≤ p)
    (hg : s'.heap.get? p = some (seqObj "list" out c)) (hl : xs.length ≤ sizeLine) (r : Vals xs out.toList) : Inv X pins σ (upd H p (.lst xs)) s' := by
  have hn : H p = none := J.hok.fresh hp
  have J2 : Inv X pins σ (upd H p (.lst xs)) { s with heap := s'.heap, gens := s'.gens, drawn := s'.drawn, toks := s'.toks } :=
    J.call (ch := []) (Un.laid k hp hn) (J.hok.laid k hp ⟨hl, out.toList, c, r, hg⟩) (by rw [g]; exact J.bare) (fun _ z => nomatch z)
  have e2 : s' = { s with heap := s'.heap, gens := s'.gens, drawn := s'.drawn, toks := s'.toks } := by
    cases s'
    cases s
    cases o
    rfl
  rw [e2]
  exact J2
theorem pe_sortSet {X : Cx} {a : Expr} {ta : TE} {p p2 q pos : Pos} (hc : X.calm = true) (hg : Gl X "sorted") (hm : X.mg "sorted" = none) (hg2 : Gl X "set") (hm2 : X.mg "set" = none) (ha : PE X a ta)
    (na : starEach [a] X.env = (false, eval a X.env) :: starEach [] X.env := by rfl) : PE X (.Call (.Name "sorted" p) [.Call (.Name "set" p2) [a] [] q] [] pos) (tSortSet X.K ta) := by
  refine ⟨fun pins s σ H Q I h => Call_ (ld_blt I hg hm boot_sorted (callWith_builtin1 (args_cons (Call_ (ld_blt I hg2 hm2 boot_set (callWith_type1 (args_cons (thn (ha.run pins s σ H _ I h) fun v s1 hv => args_nil ?_) na) na rfl))) rfl) rfl rfl))⟩
  obtain ⟨x, H1, I1, r1, l, rfl, hq⟩ := hv
  cases r1
  rcases hq with ⟨zs, hq, few, q1⟩ | ⟨ns, hq, few, q1⟩
  · obtain ⟨its, rv, pl, _⟩ := I1.list hq
    have len : its.toArray.size = zs.length := by rw [List.size_toArray, ← rv.length, List.length_map]
    refine setG (knd := PySem.strKind X.prog X.w) (dec := strOf) decS_eq zs (I1.ok.hd hc) pl.isList (fun i v hv => ?_) (by rw [len]; unfold scanBound; omega) fun h2 tk hS kp => args_nil ?_
    · obtain ⟨z, t, hz, rfl⟩ := strs_item rv i v (by simpa using hv)
      exact ⟨z, hz, strKind_is _ _ _ _, rfl⟩
    · rw [len] at hS
      have J : Inv X pins σ H1 { s1 with heap := h2, toks := tk } := I1.kept fun b o e => kp b o (Heap.lt_size e) e
      refine sortG (s := { s1 with heap := h2, toks := tk }) (Are := fun vs zs => StrsAre vs zs ∧ sortedS zs = true) hS (I1.ok.hd hc) (by unfold scanBound; omega) law_strs fun s' p out c ys k g o hp hg2 hi un mm le => ?_
      have e1 : out.toList.map strOf = ys := hi.1.strs
      rw [e1] at un mm
      have yl : ys.length ≤ zs.length := by rw [← e1, List.length_map, Array.length_toList]; exact le
      have hl : (ys.map V.str).length ≤ sizeLine := by
        have z : 2000 ≤ sizeLine := by decide +kernel
        rw [List.length_map]; omega
      have hn : H1 p = none := J.hok.fresh hp
      have J2 := inv_laid (xs := ys.map V.str) J k g o hp hg2 hl (vals_of_strs hi.1)
      exact ⟨.ref p, _, J2, rfl, q1 ys p un hi.2 (fun k => by rw [← mm k, List.take_length]; simp) hn⟩
  · obtain ⟨its, rv, pl, _⟩ := I1.list hq
    have len : its.toArray.size = ns.length := by rw [List.size_toArray, ← rv.length, List.length_map]
    refine setG (knd := PySem.intKind X.prog X.w) (dec := decI) decI_eq ns (I1.ok.hd hc) pl.isList (fun i v hv => ?_) (by rw [len]; unfold scanBound; omega) fun h2 tk hS kp => args_nil ?_
    · obtain ⟨z, t, hz, rfl⟩ := ints_item rv i v (by simpa using hv)
      exact ⟨z, hz, intKind_is _ _ _ _, rfl⟩
    · rw [len] at hS
      have J : Inv X pins σ H1 { s1 with heap := h2, toks := tk } := I1.kept fun b o e => kp b o (Heap.lt_size e) e
      refine sortG (s := { s1 with heap := h2, toks := tk }) (Are := fun vs zs => IntsAre vs zs ∧ zs.Pairwise (· ≤ ·)) hS (I1.ok.hd hc) (by unfold scanBound; omega) law_ints fun s' p out c ys k g o hp hg2 hi un mm le => ?_
      have e1 : out.toList.map decI = ys := ints_dec hi.1
      rw [e1] at un mm
      have yl : ys.length ≤ ns.length := by rw [← e1, List.length_map, Array.length_toList]; exact le
      have hl : (ys.map V.int).length ≤ sizeLine := by
        have z : 2000 ≤ sizeLine := by decide +kernel
        rw [List.length_map]; omega
      have hn : H1 p = none := J.hok.fresh hp
      have J2 := inv_laid (xs := ys.map V.int) J k g o hp hg2 hl (vals_of_ints hi.1)
      exact ⟨.ref p, _, J2, rfl, q1 ys p (lt_of_le_nodup ys hi.2 un) (fun k => by rw [← mm k, List.take_length]; simp) hn⟩
theorem sortedS_lt : ∀ {l : List Str}, sortedS l = true → l.Nodup → l.Pairwise (fun a b => ltT a.cps.toList b.cps.toList = true) := by
  have lem : ∀ (l : List Str) (p : Str), risingS p l = true → (∀ x ∈ l, p ≠ x) → l.Nodup → (p :: l).Pairwise (fun a b => ltT a.cps.toList b.cps.toList = true) := by
    intro l
    induction l with
    | nil => intro p _ _ _; simp
    | cons x r ih =>
      intro p h ne nd
      have h : (!ltCps x.cps.toList p.cps.toList && risingS x r) = true := h
      rw [Bool.and_eq_true, Bool.not_eq_true', ltCps_eq] at h
      obtain ⟨nr, nd2⟩ := List.nodup_cons.mp nd
      have t := ih x h.2 (fun y hy e => nr (e ▸ hy)) nd2
      have lt : ltT p.cps.toList x.cps.toList = true := by
        refine linT.tot _ _ h.1 fun e => ne x List.mem_cons_self ?_
        obtain ⟨⟨a⟩⟩ := x
        obtain ⟨⟨b⟩⟩ := p
        simp at e
        rw [e]
      refine List.pairwise_cons.mpr ⟨fun y hy => ?_, t⟩
      rcases List.mem_cons.mp hy with e | e
      · rw [e]; exact lt
      · exact linT.tr _ _ _ lt ((List.pairwise_cons.mp t).1 y e)
  intro l h nd
  cases l with
  | nil => exact List.Pairwise.nil
  | cons x r => exact lem r x h (fun y hy e => (List.nodup_cons.mp nd).1 (e ▸ hy)) (List.nodup_cons.mp nd).2
section
variable {K : PySem.W.Frag} {p : Px} {W : WX}
theorem i_sortS {c : Bool} {ma : ME} : ∀ σ H Q, cE K p W (eSortS c ma) σ H Q → tSortSet K (cE K p W ma) σ H Q := fun σ H Q ⟨w, e, s, R, E, h⟩ =>
  ⟨w, e, s, R, E, Fin.bind h fun x s1 w1 H1 v x1 R1 r1 h1 => by
    split at h1
    · rename_i xs hx
      split at h1
      · rename_i ys hy
        split at h1
        · rename_i hl
          obtain ⟨a, vs, rfl, h5, l2⟩ := r1.asL R1 hx
          refine ⟨a, rfl, ?_⟩
          unfold sortV at hy
          split at hy
          · rename_i l hi
            cases hy
            have ev := l2.intsE hi
            subst ev
            have ll := l2.len
            rw [List.length_map] at ll
            refine .inr ⟨l, h5, by omega, fun ms q hm hk n => ?_⟩
            have e : ms = sortI l := srt_one (R := fun a b => ltI a b = true) (fun a => by simp [ltI]) linI.tr (hm.imp fun h => by simpa [ltI] using h) (srt_sortR linI l) fun z => (hk z).trans mem_sortI.symm
            rw [e]
            exact Fin.newL h1 R1 RvL.ints n
          · obtain ⟨l, h3, h4⟩ := Option.map_eq_some_iff.mp hy
            subst h4
            obtain ⟨ev, hz⟩ := l2.strsE h3
            subst ev
            have ll := l2.len
            rw [List.length_map, List.length_map] at ll
            refine .inl ⟨l.map tS, h5, by rw [List.length_map]; omega, fun ys q un so hk n => ?_⟩
            have e : ys = (sortT l).map tS := srt_one (R := fun a b : Str => ltT a.cps.toList b.cps.toList = true) (fun a => by simp [linT.irr]) (fun a b c h k => linT.tr _ _ _ h k) (sortedS_lt so un)
              (List.pairwise_map.mpr ((srt_sortR linT l).imp fun h => by simpa [tS] using h)) fun z => by
                rw [hk z]
                simp only [List.mem_map]
                exact ⟨fun ⟨y, hy, e⟩ => ⟨y, mem_sortT.mpr hy, e⟩, fun ⟨y, hy, e⟩ => ⟨y, mem_sortT.mp hy, e⟩⟩
            rw [e, List.map_map]
            exact Fin.newL h1 R1 (RvL.strs fun z hz2 => hz z (mem_sortT.mp hz2)) n
        · exact h1.elim
      · exact h1.elim
    · exact h1.elim⟩
end
end Ps

namespace Mo
open Pm
abbrev fuel : Nat := 1000000000000000000000000000000
noncomputable def b_law_next : MS :=
  (sSeq (sIf (uV (eOp gtD (eOp ixD (eVar 0) (eC (.int 0))) (eC (.int 0)))) (sSeq (sAsg (eOp modD (eOp ixD (eVar 0) (eC (.int 0))) (eVar 1)) (hNm 2))
    (sSeq (sPut (eVar 0) (eC (.int 0)) (eOp divD (eOp ixD (eVar 0) (eC (.int 0))) (eVar 1)))
    (sRet (eVar 2)))) sNext)
    (sSeq (sPut (eVar 0) (eC (.int 2)) (eOp addD (eOp ixD (eVar 0) (eC (.int 2))) (eC (.int 1))))
    (sSeq (sAsg (eOp modD (eOp mulD (eOp addD (eOp addD (eOp ixD (eVar 0) (eC (.int 1))) (eOp mulD (eC (.int 7919)) (eOp ixD (eVar 0) (eC (.int 2))))) (eC (.int 1))) (eC (.int 48271))) (eC (.int 2147483647))) (hNm 3))
    (sSeq (sAsg (eOp modD (eOp mulD (eVar 3) (eOp addD (eOp divD (eVar 3) (eC (.int 1009))) (eC (.int 69621)))) (eC (.int 2147483647))) (hNm 3))
    (sSeq (sAsg (eOp modD (eOp mulD (eVar 3) (eOp addD (eOp divD (eVar 3) (eC (.int 2003))) (eC (.int 40692)))) (eC (.int 2147483399))) (hNm 3))
    (sRet (eOp modD (eOp divD (eVar 3) (eC (.int 7))) (eVar 1))))))))
noncomputable def m_law_next : MF := mkF 2 4 b_law_next
noncomputable def b_law_name : MS :=
  (sSeq (sAsg (eC (.str (tx "abcdefghijklmnopqrstuvwxyz"))) (hNm 1))
    (sSeq (sAsg (eCall m_law_next (aCons (eVar 0) (aCons (eC (.int 4)) aNil))) (hNm 2))
    (sSeq (sIf (uV (eOp eqD (eVar 2) (eC (.int 0)))) (sSeq (sAsg (eLst false (aCons (eC (.str (tx "any"))) (aCons (eC (.str (tx "kind"))) (aCons (eC (.str (tx "place"))) (aCons (eC (.str (tx "weight"))) (aCons (eC (.str (tx "not"))) (aCons (eC (.str (tx "by"))) (aCons (eC (.str (tx "now"))) (aCons (eC (.str (tx "hour"))) (aCons (eC (.str (tx "day"))) (aCons (eC (.str (tx "never"))) (aCons (eC (.str (tx "sure"))) (aCons (eC (.str (tx "raise"))) (aCons (eC (.str (tx "zone"))) aNil)))))))))))))) (hNm 3))
    (sRet (eOp ixD (eOp addD (eVar 3) (eLst false (aCons (eC (.str (tx "quiet"))) (aCons (eC (.str (tx "a"))) (aCons (eC (.str (tx "to"))) aNil))))) (eCall m_law_next (aCons (eVar 0) (aCons (eC (.int 16)) aNil)))))) sNext)
    (sSeq (sIf (uV (eOp eqD (eVar 2) (eC (.int 1)))) (sSeq (sAsg (eSl (eC (.str (tx "bcdefghi"))) oNone (oSome (eOp addD (eC (.int 1)) (eCall m_law_next (aCons (eVar 0) (aCons (eC (.int 8)) aNil)))))) (hNm 4))
    (sSeq (sAsg (eCall m_law_next (aCons (eVar 0) (aCons (eCall lenD (aCons (eVar 4) aNil)) aNil))) (hNm 5))
    (sRet (eOp addD (eOp addD (eSl (eVar 4) oNone (oSome (eVar 5))) (eOp ixD (eC (.str (tx "axz"))) (eCall m_law_next (aCons (eVar 0) (aCons (eC (.int 3)) aNil))))) (eSl (eVar 4) (oSome (eOp addD (eVar 5) (eC (.int 1)))) oNone))))) sNext)
    (sRet (eJoin (eC (.str (tx ""))) (eLc false (wRng1 (aCons (eOp addD (eC (.int 1)) (eCall m_law_next (aCons (eVar 0) (aCons (eC (.int 8)) aNil)))) aNil)) (hNm 6) uYes (eOp ixD (eVar 1) (eCall m_law_next (aCons (eVar 0) (aCons (eC (.int 26)) aNil)))) [6])))))))
noncomputable def m_law_name : MF := mkF 1 7 b_law_name
noncomputable def l_law_leaf_1  : MS :=
  (sSeq (sAsg (eCall m_law_name (aCons (eVar 0) aNil)) (hNm 5))
    (sIf (uV (eOp (inD true) (eVar 5) (eVar 3))) (sDrop (eApp (eVar 3) (eVar 5))) sNext))
noncomputable def b_law_leaf : MS :=
  (sSeq (sAsg (eCall m_law_next (aCons (eVar 0) (aCons (eC (.int 7)) aNil))) (hNm 2))
    (sSeq (sIf (uV (eOp eqD (eVar 2) (eC (.int 0)))) (sRet (eTup (aCons (eC (.str (tx "any"))) aNil))) sNext)
    (sSeq (sIf (uV (eOp ltD (eVar 2) (eC (.int 3)))) (sRet (eTup (aCons (eC (.str (tx "weight"))) (aCons (eOp ixD (eLst false (aCons (eCall m_law_next (aCons (eVar 0) (aCons (eC (.int 9)) aNil))) (aCons (eCall m_law_next (aCons (eVar 0) (aCons (eC (.int 1000000)) aNil))) aNil))) (eOp divD (eCall m_law_next (aCons (eVar 0) (aCons (eC (.int 3)) aNil))) (eC (.int 2)))) aNil)))) sNext)
    (sSeq (sAsg (eLst true (aCons (eCall m_law_name (aCons (eVar 0) aNil)) aNil)) (hNm 3))
    (sSeq (sFor (wRng1 (aCons (eCall m_law_next (aCons (eVar 0) (aCons (eOp addD (eC (.int 1)) (eVar 1)) aNil))) aNil)) (hNm 4) l_law_leaf_1)
    (sRet (eTup (aCons (eOp ixD (eLst false (aCons (eC (.str (tx "kind"))) (aCons (eC (.str (tx "place"))) aNil))) (eOp modD (eVar 2) (eC (.int 2)))) (aCons (eCall tupD (aCons (eVar 3) aNil)) aNil)))))))))
noncomputable def m_law_leaf : MF := mkF 2 6 b_law_leaf
noncomputable def e_law_tree_1 (r_law_tree : MF) : ME :=
  (eCall r_law_tree (aCons (eVar 0) (aCons (eOp subD (eVar 1) (eC (.int 1))) (aCons (eVar 2) aNil))))
noncomputable def b_law_tree (r_law_tree : MF) : MS :=
  (sSeq (sAsg (eCall m_law_next (aCons (eVar 0) (aCons (eC (.int 8)) aNil))) (hNm 3))
    (sSeq (sIf (uOr (uV (eOp eqD (eVar 1) (eC (.int 0)))) (uV (eOp ltD (eVar 3) (eC (.int 3))))) (sRet (eCall m_law_leaf (aCons (eVar 0) (aCons (eOp mulD (eVar 2) (eCall toIntD (aCons (eOp gtD (eVar 1) (eC (.int 0))) aNil))) aNil)))) sNext)
    (sSeq (sIf (uV (eOp eqD (eVar 3) (eC (.int 3)))) (sRet (eTup (aCons (eC (.str (tx "not"))) (aCons (eCall r_law_tree (aCons (eVar 0) (aCons (eOp subD (eVar 1) (eC (.int 1))) (aCons (eVar 2) aNil)))) aNil)))) sNext)
    (sSeq (sAsg (eLc false (wRng1 (aCons (eOp addD (eC (.int 2)) (eCall toIntD (aCons (eAnd (eOp gtD (eVar 1) (eC (.int 2))) (eOp gtD (eVar 3) (eC (.int 5)))) aNil))) aNil)) (hNm 5) uYes (e_law_tree_1 r_law_tree) [5]) (hNm 4))
    (sRet (eTup (aCons (eOp ixD (eLst false (aCons (eC (.str (tx "both"))) (aCons (eC (.str (tx "either"))) aNil))) (eOp modD (eVar 3) (eC (.int 2)))) (aCons (eCall tupD (aCons (eVar 4) aNil)) aNil))))))))
noncomputable def q_law_tree : Nat → MF
  | 0 => fun _ _ => .stuck
  | d + 1 => mkF 3 6 (b_law_tree (q_law_tree d))
theorem q_law_tree_s (d : Nat) : q_law_tree (d + 1) = mkF 3 6 (b_law_tree (q_law_tree d)) := rfl
noncomputable def m_law_tree : MF := q_law_tree 50
noncomputable def b_law_begin : MS :=
  (sRet (eLst true (aCons (eOp mulD (eOp divD (eVar 0) (eC (.int 2))) (eOp subD (eC (.int 1)) (eOp modD (eVar 0) (eC (.int 2))))) (aCons (eOp modD (eVar 0) (eC (.int 2147483647))) (aCons (eC (.int 0)) aNil)))))
noncomputable def m_law_begin : MF := mkF 1 1 b_law_begin
noncomputable def l_law_beside_1  : MS :=
  (sIf (uV (eOp (inD true) (eVar 1) (eVar 0))) (sRet (eOp addD (eVar 0) (eLst false (aCons (eVar 1) aNil)))) sNext)
noncomputable def b_law_beside : MS :=
  (sSeq (sFor (wD (eC (.str (tx "abcdefghijklmnopqrstuvwxyz")))) (hNm 1) l_law_beside_1)
    (sRet (eOp addD (eVar 0) (eLst false (aCons (eC (.str (tx "zzzzzzzz"))) aNil)))))
noncomputable def m_law_beside : MF := mkF 1 2 b_law_beside
noncomputable def l_law_gathered_1 (r_law_gathered : MF) : MS :=
  (sAsg (eOp addD (eVar 2) (eCall r_law_gathered (aCons (eVar 3) (aCons (eVar 1) aNil)))) (hNm 2))
noncomputable def b_law_gathered (r_law_gathered : MF) : MS :=
  (sSeq (sIf (uAnd (uV (eOp eqD (eOp ixD (eVar 0) (eC (.int 0))) (eVar 1))) (uV (eOp eqD (eVar 1) (eC (.str (tx "weight")))))) (sRet (eLst false (aCons (eOp ixD (eVar 0) (eC (.int 1))) aNil))) sNext)
    (sSeq (sIf (uV (eOp eqD (eOp ixD (eVar 0) (eC (.int 0))) (eVar 1))) (sRet (eCall (listD false) (aCons (eOp ixD (eVar 0) (eC (.int 1))) aNil))) sNext)
    (sSeq (sIf (uV (eOp eqD (eOp ixD (eVar 0) (eC (.int 0))) (eC (.str (tx "not"))))) (sRet (eCall r_law_gathered (aCons (eOp ixD (eVar 0) (eC (.int 1))) (aCons (eVar 1) aNil)))) sNext)
    (sSeq (sAsg (eLst false aNil) (hNm 2))
    (sSeq (sIf (uOr (uV (eOp eqD (eOp ixD (eVar 0) (eC (.int 0))) (eC (.str (tx "both"))))) (uV (eOp eqD (eOp ixD (eVar 0) (eC (.int 0))) (eC (.str (tx "either")))))) (sFor (wD (eOp ixD (eVar 0) (eC (.int 1)))) (hNm 3) (l_law_gathered_1 r_law_gathered)) sNext)
    (sRet (eVar 2)))))))
noncomputable def q_law_gathered : Nat → MF
  | 0 => fun _ _ => .stuck
  | d + 1 => mkF 2 4 (b_law_gathered (q_law_gathered d))
theorem q_law_gathered_s (d : Nat) : q_law_gathered (d + 1) = mkF 2 4 (b_law_gathered (q_law_gathered d)) := rfl
noncomputable def m_law_gathered : MF := q_law_gathered 50
noncomputable def e_law_all_1  : ME :=
  (eTup (aCons (eVar 6) (aCons (eVar 7) (aCons (eVar 8) aNil))))
noncomputable def l_law_all_1  : MS :=
  (sAsg (eOp addD (eVar 5) (eLc false (wD (eVar 4)) (hNm 8) uYes e_law_all_1 [8])) (hNm 5))
noncomputable def l_law_all_2  : MS :=
  (sFor (wD (eVar 3)) (hNm 7) l_law_all_1)
noncomputable def b_law_all : MS :=
  (sSeq (sAsg (eTup (aCons (eC (.str (tx "both"))) (aCons (eCall tupD (aCons (eVar 0) aNil)) aNil))) (hNm 1))
    (sSeq (sAsg (eCall m_law_beside (aCons (eCall m_law_gathered (aCons (eVar 1) (aCons (eC (.str (tx "kind"))) aNil))) aNil)) (hNm 2))
    (sSeq (sAsg (eCall m_law_beside (aCons (eCall m_law_gathered (aCons (eVar 1) (aCons (eC (.str (tx "place"))) aNil))) aNil)) (hNm 3))
    (sSeq (sAsg (eSortS false (eOp addD (eLst false (aCons (eC (.int 0)) aNil)) (eCall m_law_gathered (aCons (eVar 1) (aCons (eC (.str (tx "weight"))) aNil))))) (hNm 4))
    (sSeq (sAsg (eLst false aNil) (hNm 5))
    (sSeq (sFor (wD (eVar 2)) (hNm 6) l_law_all_2)
    (sRet (eVar 5))))))))
noncomputable def m_law_all : MF := mkF 1 9 b_law_all
noncomputable def e_Several_init_1  : ME :=
  (eCall isiD (aCons (eVar 2) (aCons (eC (.cls "Fit")) aNil)))
noncomputable def b_Several_init : MS :=
  (sSeq (sIf (uOr (uNot (uTru (eCall isiD (aCons (eVar 1) (aCons (eC (.ty "list")) aNil))))) (uOr (uV (eOp ltD (eCall lenD (aCons (eVar 1) aNil)) (eC (.int 2)))) (uNot (uTru (eCall allD (aCons (eLc false (wD (eVar 1)) (hNm 2) uYes e_Several_init_1 [2]) aNil)))))) (sRaise "NoFit") sNext)
    (sMe "fits" (eCall (listD false) (aCons (eVar 1) aNil))))
noncomputable def m_Several_init : MI := mkI 2 3 b_Several_init
noncomputable def b_is_name : MS :=
  (sSeq (sIf (uOr (uNot (uTru (eCall isiD (aCons (eVar 0) (aCons (eC (.ty "str")) aNil))))) (uOr (uV (eOp eqD (eVar 0) (eC (.str (tx ""))))) (uV (eOp gtD (eCall lenD (aCons (eVar 0) aNil)) (eC (.int 8)))))) (sRet (eC (.bl false))) sNext)
    (sRet (eCall allD (aCons (eLc false (wD (eVar 0)) (hNm 1) uYes (eOp (inD false) (eVar 1) (eC (.str (tx "abcdefghijklmnopqrstuvwxyz")))) [1]) aNil))))
noncomputable def m_is_name : MF := mkF 1 2 b_is_name
noncomputable def b_are_names : MS :=
  (sSeq (sIf (uOr (uNot (uTru (eCall isiD (aCons (eVar 0) (aCons (eC (.ty "list")) aNil))))) (uNot (uTru (eCall allD (aCons (eLc false (wD (eVar 0)) (hNm 1) uYes (eCall m_is_name (aCons (eVar 1) aNil)) [1]) aNil))))) (sRet (eC (.bl false))) sNext)
    (sRet (eOp eqD (eCall lenSetD (aCons (eVar 0) aNil)) (eCall lenD (aCons (eVar 0) aNil)))))
noncomputable def m_are_names : MF := mkF 1 2 b_are_names
noncomputable def b_Named_init : MS :=
  (sSeq (sIf (uOr (uNot (uTru (eCall m_are_names (aCons (eVar 1) aNil)))) (uV (eOp eqE (eVar 1) (eLst false aNil)))) (sRaise "NoFit") sNext)
    (sMe "names" (eCall (listD false) (aCons (eVar 1) aNil))))
noncomputable def m_Named_init : MI := mkI 2 2 b_Named_init
noncomputable def b_is_whole : MS :=
  (sRet (eAnd (eCall isiD (aCons (eVar 0) (aCons (eC (.ty "int")) aNil))) (eNot (eCall isiD (aCons (eVar 0) (aCons (eC (.ty "bool")) aNil))))))
noncomputable def m_is_whole : MF := mkF 1 1 b_is_whole
noncomputable def b_is_weight : MS :=
  (sRet (eAnd (eCall m_is_whole (aCons (eVar 0) aNil)) (eOp geD (eVar 0) (eC (.int 0)))))
noncomputable def m_is_weight : MF := mkF 1 1 b_is_weight
noncomputable def b_Least_init : MS :=
  (sSeq (sIf (uNot (uTru (eCall m_is_weight (aCons (eVar 1) aNil)))) (sRaise "NoFit") sNext)
    (sMe "weight" (eVar 1)))
noncomputable def m_Least_init : MI := mkI 2 2 b_Least_init
noncomputable def b_Not_init : MS :=
  (sSeq (sIf (uNot (uTru (eCall isiD (aCons (eVar 1) (aCons (eC (.cls "Fit")) aNil))))) (sRaise "NoFit") sNext)
    (sMe "fit" (eVar 1)))
noncomputable def m_Not_init : MI := mkI 2 2 b_Not_init
noncomputable def b_law_made (r_law_made : MF) : MS :=
  (sSeq (sIf (uV (eOp eqD (eOp ixD (eVar 0) (eC (.int 0))) (eC (.str (tx "any"))))) (sRet (eMake0 "Any")) sNext)
    (sSeq (sIf (uV (eOp eqD (eOp ixD (eVar 0) (eC (.int 0))) (eC (.str (tx "kind"))))) (sRet (eMake "Kind" m_Named_init (aCons (eCall (listD false) (aCons (eOp ixD (eVar 0) (eC (.int 1))) aNil)) aNil))) sNext)
    (sSeq (sIf (uV (eOp eqD (eOp ixD (eVar 0) (eC (.int 0))) (eC (.str (tx "place"))))) (sRet (eMake "Place" m_Named_init (aCons (eCall (listD false) (aCons (eOp ixD (eVar 0) (eC (.int 1))) aNil)) aNil))) sNext)
    (sSeq (sIf (uV (eOp eqD (eOp ixD (eVar 0) (eC (.int 0))) (eC (.str (tx "weight"))))) (sRet (eMake "Least" m_Least_init (aCons (eOp ixD (eVar 0) (eC (.int 1))) aNil))) sNext)
    (sSeq (sIf (uV (eOp eqD (eOp ixD (eVar 0) (eC (.int 0))) (eC (.str (tx "not"))))) (sRet (eMake "Not" m_Not_init (aCons (eCall r_law_made (aCons (eOp ixD (eVar 0) (eC (.int 1))) aNil)) aNil))) sNext)
    (sSeq (sIf (uV (eOp eqD (eOp ixD (eVar 0) (eC (.int 0))) (eC (.str (tx "both"))))) (sRet (eMake "Both" m_Several_init (aCons (eLc false (wD (eOp ixD (eVar 0) (eC (.int 1)))) (hNm 1) uYes (eCall r_law_made (aCons (eVar 1) aNil)) [1]) aNil))) sNext)
    (sRet (eMake "Either" m_Several_init (aCons (eLc false (wD (eOp ixD (eVar 0) (eC (.int 1)))) (hNm 1) uYes (eCall r_law_made (aCons (eVar 1) aNil)) [1]) aNil)))))))))
noncomputable def q_law_made : Nat → MF
  | 0 => fun _ _ => .stuck
  | d + 1 => mkF 1 2 (b_law_made (q_law_made d))
theorem q_law_made_s (d : Nat) : q_law_made (d + 1) = mkF 1 2 (b_law_made (q_law_made d)) := rfl
noncomputable def m_law_made : MF := q_law_made 50
noncomputable def l_word_of_1  : MS :=
  (sSeq (sAsg (eOp divD (eVar 0) (eC (.int 26))) (hNm 0))
    (sAsg (eOp addD (eOp ixD (eC (.str (tx "abcdefghijklmnopqrstuvwxyz"))) (eOp modD (eVar 0) (eC (.int 26)))) (eVar 1)) (hNm 1)))
noncomputable def b_word_of : MS :=
  (sSeq (sAsg (eOp ixD (eC (.str (tx "abcdefghijklmnopqrstuvwxyz"))) (eOp modD (eVar 0) (eC (.int 26)))) (hNm 1))
    (sSeq (sWhile fuel (uV (eOp geD (eVar 0) (eC (.int 26)))) l_word_of_1)
    (sRet (eVar 1))))
noncomputable def m_word_of : MF := mkF 1 2 b_word_of
noncomputable def t_name_beside_1  : MT :=
  (uV (eOp (inD false) (eCall m_word_of (aCons (eVar 1) aNil)) (eVar 0)))
noncomputable def l_name_beside_1  : MS :=
  (sAsg (eOp addD (eVar 1) (eC (.int 1))) (hNm 1))
noncomputable def b_name_beside : MS :=
  (sSeq (sAsg (eC (.int 0)) (hNm 1))
    (sSeq (sWhile fuel t_name_beside_1 l_name_beside_1)
    (sRet (eCall m_word_of (aCons (eVar 1) aNil)))))
noncomputable def m_name_beside : MF := mkF 1 2 b_name_beside
noncomputable def b_with_one_more : MS :=
  (sRet (eOp addD (eSortS false (eVar 0)) (eLst false (aCons (eCall m_name_beside (aCons (eVar 0) aNil)) aNil))))
noncomputable def m_with_one_more : MF := mkF 1 1 b_with_one_more
noncomputable def b_Turns_init : MS :=
  (sSeq (sMe "kinds" (eLst true aNil))
    (sSeq (sMe "places" (eLst true aNil))
    (sMe "weights" (eLst true (aCons (eC (.int 0)) aNil)))))
noncomputable def m_Turns_init : MI := mkI 1 1 b_Turns_init
noncomputable def b_Happening_init : MS :=
  (sSeq (sIf (uOr (uNot (uTru (eCall m_is_name (aCons (eVar 1) aNil)))) (uOr (uNot (uTru (eCall m_is_name (aCons (eVar 2) aNil)))) (uNot (uTru (eCall m_is_weight (aCons (eVar 3) aNil)))))) (sRaise "NoHappening") sNext)
    (sSeq (sMe "kind" (eVar 1))
    (sSeq (sMe "place" (eVar 2))
    (sMe "weight" (eVar 3)))))
noncomputable def m_Happening_init : MI := mkI 4 4 b_Happening_init
noncomputable def b_Turns_look_at : MS :=
  (sSeq (sIf (uTru (eCall isiD (aCons (eVar 1) (aCons (eC (.cls "Kind")) aNil)))) (sDrop (eExt (eUn (fldD "kinds") (eVar 0)) (eUn (fldD "names") (eVar 1)))) sNext)
    (sSeq (sIf (uTru (eCall isiD (aCons (eVar 1) (aCons (eC (.cls "Place")) aNil)))) (sDrop (eExt (eUn (fldD "places") (eVar 0)) (eUn (fldD "names") (eVar 1)))) sNext)
    (sIf (uTru (eCall isiD (aCons (eVar 1) (aCons (eC (.cls "Least")) aNil)))) (sDrop (eApp (eUn (fldD "weights") (eVar 0)) (eUn (fldD "weight") (eVar 1)))) sNext)))
noncomputable def m_Turns_look_at : MF := mkF 2 2 b_Turns_look_at
noncomputable def b_Several_within : MS :=
  (sRet (eCall (listD false) (aCons (eUn (fldD "fits") (eVar 0)) aNil)))
noncomputable def m_Several_within : MF := mkF 1 1 b_Several_within
noncomputable def b_Fit_within : MS :=
  (sRet (eLst false aNil))
noncomputable def m_Fit_within : MF := mkF 1 1 b_Fit_within
noncomputable def b_Not_within : MS :=
  (sRet (eLst false (aCons (eUn (fldD "fit") (eVar 0)) aNil)))
noncomputable def m_Not_within : MF := mkF 1 1 b_Not_within
noncomputable def t_Turns_look_through_1  : MT :=
  (uV (eOp neE (eVar 2) (eLst false aNil)))
noncomputable def l_Turns_look_through_1  : MS :=
  (sSeq (sAsg (ePop (eVar 2)) (hNm 3))
    (sSeq (sDrop (eMeth [("Turns", m_Turns_look_at)] (eVar 0) (aCons (eVar 3) aNil)))
    (sDrop (eExt (eVar 2) (eMeth [("Either", m_Several_within), ("Any", m_Fit_within), ("Kind", m_Fit_within), ("Place", m_Fit_within), ("Least", m_Fit_within), ("Not", m_Not_within), ("Both", m_Several_within)] (eVar 3) aNil)))))
noncomputable def b_Turns_look_through : MS :=
  (sSeq (sAsg (eCall (listD true) (aCons (eVar 1) aNil)) (hNm 2))
    (sWhile fuel t_Turns_look_through_1 l_Turns_look_through_1))
noncomputable def m_Turns_look_through : MF := mkF 2 4 b_Turns_look_through
noncomputable def l_found_where_1 (r_fn : MF) : MS :=
  (sSeq (sAsg (eMake "Happening" m_Happening_init (aCons (eVar 5) (aCons (eVar 6) (aCons (eVar 7) aNil)))) (hNm 8))
    (sIf (uTru (eCallF 1 r_fn (eVar 8))) (sRet (eVar 8)) sNext))
noncomputable def l_found_where_2 (r_fn : MF) : MS :=
  (sFor (wD (eVar 4)) (hNm 7) (l_found_where_1 r_fn))
noncomputable def l_found_where_3 (r_fn : MF) : MS :=
  (sFor (wD (eVar 3)) (hNm 6) (l_found_where_2 r_fn))
noncomputable def b_found_where (r_fn : MF) : MS :=
  (sSeq (sAsg (eMakeD "Turns" m_Turns_init [] aNil) (hNm 2))
    (sSeq (sDrop (eMeth [("Turns", m_Turns_look_through)] (eVar 2) (aCons (eVar 0) aNil)))
    (sSeq (sAsg (eCall m_with_one_more (aCons (eUn (fldD "places") (eVar 2)) aNil)) (hNm 3))
    (sSeq (sAsg (eSortS false (eUn (fldD "weights") (eVar 2))) (hNm 4))
    (sSeq (sFor (wD (eCall m_with_one_more (aCons (eUn (fldD "kinds") (eVar 2)) aNil))) (hNm 5) (l_found_where_3 r_fn))
    (sRet (eC .non)))))))
noncomputable def m_found_where (r_fn : MF) : MF := mkF 2 9 (b_found_where r_fn)
noncomputable def b_Any_fits_it : MS :=
  (sRet (eC (.bl true)))
noncomputable def m_Any_fits_it : MF := mkF 2 2 b_Any_fits_it
noncomputable def b_Kind_fits_it : MS :=
  (sRet (eOp (inD false) (eUn (fldD "kind") (eVar 1)) (eUn (fldD "names") (eVar 0))))
noncomputable def m_Kind_fits_it : MF := mkF 2 2 b_Kind_fits_it
noncomputable def b_Place_fits_it : MS :=
  (sRet (eOp (inD false) (eUn (fldD "place") (eVar 1)) (eUn (fldD "names") (eVar 0))))
noncomputable def m_Place_fits_it : MF := mkF 2 2 b_Place_fits_it
noncomputable def b_Least_fits_it : MS :=
  (sRet (eOp geD (eUn (fldD "weight") (eVar 1)) (eUn (fldD "weight") (eVar 0))))
noncomputable def m_Least_fits_it : MF := mkF 2 2 b_Least_fits_it
noncomputable def e_Both_fits_it_1 (r_Both_fits_it : MF) (r_Either_fits_it : MF) (r_Not_fits_it : MF) : ME :=
  (eMeth [("Either", r_Either_fits_it), ("Any", m_Any_fits_it), ("Kind", m_Kind_fits_it), ("Place", m_Place_fits_it), ("Least", m_Least_fits_it), ("Not", r_Not_fits_it), ("Both", r_Both_fits_it)] (eVar 2) (aCons (eVar 1) aNil))
noncomputable def b_Both_fits_it (r_Both_fits_it : MF) (r_Either_fits_it : MF) (r_Not_fits_it : MF) : MS :=
  (sRet (eCall allD (aCons (eLc false (wD (eUn (fldD "fits") (eVar 0))) (hNm 2) uYes (e_Both_fits_it_1 r_Both_fits_it r_Either_fits_it r_Not_fits_it) [2]) aNil)))
noncomputable def e_Either_fits_it_1 (r_Both_fits_it : MF) (r_Either_fits_it : MF) (r_Not_fits_it : MF) : ME :=
  (eMeth [("Either", r_Either_fits_it), ("Any", m_Any_fits_it), ("Kind", m_Kind_fits_it), ("Place", m_Place_fits_it), ("Least", m_Least_fits_it), ("Not", r_Not_fits_it), ("Both", r_Both_fits_it)] (eVar 2) (aCons (eVar 1) aNil))
noncomputable def b_Either_fits_it (r_Both_fits_it : MF) (r_Either_fits_it : MF) (r_Not_fits_it : MF) : MS :=
  (sRet (eCall anyD (aCons (eLc false (wD (eUn (fldD "fits") (eVar 0))) (hNm 2) uYes (e_Either_fits_it_1 r_Both_fits_it r_Either_fits_it r_Not_fits_it) [2]) aNil)))
noncomputable def b_Not_fits_it (r_Both_fits_it : MF) (r_Either_fits_it : MF) (r_Not_fits_it : MF) : MS :=
  (sRet (eNot (eMeth [("Either", r_Either_fits_it), ("Any", m_Any_fits_it), ("Kind", m_Kind_fits_it), ("Place", m_Place_fits_it), ("Least", m_Least_fits_it), ("Not", r_Not_fits_it), ("Both", r_Both_fits_it)] (eUn (fldD "fit") (eVar 0)) (aCons (eVar 1) aNil))))
mutual
noncomputable def q_Both_fits_it : Nat → MF
  | 0 => fun _ _ => .stuck
  | d + 1 => mkF 2 3 (b_Both_fits_it (q_Both_fits_it d) (q_Either_fits_it d) (q_Not_fits_it d))
noncomputable def q_Either_fits_it : Nat → MF
  | 0 => fun _ _ => .stuck
  | d + 1 => mkF 2 3 (b_Either_fits_it (q_Both_fits_it d) (q_Either_fits_it d) (q_Not_fits_it d))
noncomputable def q_Not_fits_it : Nat → MF
  | 0 => fun _ _ => .stuck
  | d + 1 => mkF 2 2 (b_Not_fits_it (q_Both_fits_it d) (q_Either_fits_it d) (q_Not_fits_it d))
end
theorem q_Both_fits_it_s (d : Nat) : q_Both_fits_it (d + 1) = mkF 2 3 (b_Both_fits_it (q_Both_fits_it d) (q_Either_fits_it d) (q_Not_fits_it d)) := rfl
theorem q_Either_fits_it_s (d : Nat) : q_Either_fits_it (d + 1) = mkF 2 3 (b_Either_fits_it (q_Both_fits_it d) (q_Either_fits_it d) (q_Not_fits_it d)) := rfl
theorem q_Not_fits_it_s (d : Nat) : q_Not_fits_it (d + 1) = mkF 2 2 (b_Not_fits_it (q_Both_fits_it d) (q_Either_fits_it d) (q_Not_fits_it d)) := rfl
noncomputable def m_Both_fits_it : MF := q_Both_fits_it 50
noncomputable def m_Either_fits_it : MF := q_Either_fits_it 50
noncomputable def m_Not_fits_it : MF := q_Not_fits_it 50
noncomputable def e_parting_1  : ME :=
  (eAnd (eMeth [("Either", m_Either_fits_it), ("Any", m_Any_fits_it), ("Kind", m_Kind_fits_it), ("Place", m_Place_fits_it), ("Least", m_Least_fits_it), ("Not", m_Not_fits_it), ("Both", m_Both_fits_it)] (eVar 0) (aCons (eVar 2) aNil)) (eNot (eMeth [("Either", m_Either_fits_it), ("Any", m_Any_fits_it), ("Kind", m_Kind_fits_it), ("Place", m_Place_fits_it), ("Least", m_Least_fits_it), ("Not", m_Not_fits_it), ("Both", m_Both_fits_it)] (eVar 1) (aCons (eVar 2) aNil))))
noncomputable def b_parting : MS :=
  (sRet (eHof 0 m_found_where e_parting_1 (eLst false (aCons (eVar 0) (aCons (eVar 1) aNil)))))
noncomputable def m_parting : MF := mkF 2 2 b_parting
noncomputable def b_law_cell_at : MS :=
  (sSeq (sIf (uV (eOp ltD (eVar 1) (eCall lenD (aCons (eVar 0) aNil)))) (sRet (eOp ixD (eVar 0) (eVar 1))) sNext)
    (sRet (eC (.int 0))))
noncomputable def m_law_cell_at : MF := mkF 2 2 b_law_cell_at
noncomputable def t_law_fits_1 (r_law_fits : MF) : MT :=
  (uNot (uTru (eCall r_law_fits (aCons (eVar 2) (aCons (eVar 1) aNil)))))
noncomputable def t_law_fits_2 (r_law_fits : MF) : MT :=
  (uTru (eCall r_law_fits (aCons (eVar 2) (aCons (eVar 1) aNil))))
noncomputable def b_law_fits (r_law_fits : MF) : MS :=
  (sSeq (sIf (uV (eOp eqD (eOp ixD (eVar 0) (eC (.int 0))) (eC (.str (tx "any"))))) (sRet (eC (.bl true))) sNext)
    (sSeq (sIf (uV (eOp eqD (eOp ixD (eVar 0) (eC (.int 0))) (eC (.str (tx "kind"))))) (sRet (eOp (inD false) (eOp ixD (eVar 1) (eC (.int 0))) (eOp ixD (eVar 0) (eC (.int 1))))) sNext)
    (sSeq (sIf (uV (eOp eqD (eOp ixD (eVar 0) (eC (.int 0))) (eC (.str (tx "place"))))) (sRet (eOp (inD false) (eOp ixD (eVar 1) (eC (.int 1))) (eOp ixD (eVar 0) (eC (.int 1))))) sNext)
    (sSeq (sIf (uV (eOp eqD (eOp ixD (eVar 0) (eC (.int 0))) (eC (.str (tx "weight"))))) (sRet (eOp geD (eOp ixD (eVar 1) (eC (.int 2))) (eOp ixD (eVar 0) (eC (.int 1))))) sNext)
    (sSeq (sIf (uV (eOp eqD (eOp ixD (eVar 0) (eC (.int 0))) (eC (.str (tx "not"))))) (sRet (eNot (eCall r_law_fits (aCons (eOp ixD (eVar 0) (eC (.int 1))) (aCons (eVar 1) aNil))))) sNext)
    (sSeq (sIf (uV (eOp eqD (eOp ixD (eVar 0) (eC (.int 0))) (eC (.str (tx "both"))))) (sRet (eOp eqE (eLc false (wD (eOp ixD (eVar 0) (eC (.int 1)))) (hNm 2) (t_law_fits_1 r_law_fits) (eVar 2) [2]) (eLst false aNil))) sNext)
    (sRet (eOp neE (eLc false (wD (eOp ixD (eVar 0) (eC (.int 1)))) (hNm 2) (t_law_fits_2 r_law_fits) (eVar 2) [2]) (eLst false aNil)))))))))
noncomputable def q_law_fits : Nat → MF
  | 0 => fun _ _ => .stuck
  | d + 1 => mkF 2 3 (b_law_fits (q_law_fits d))
theorem q_law_fits_s (d : Nat) : q_law_fits (d + 1) = mkF 2 3 (b_law_fits (q_law_fits d)) := rfl
noncomputable def m_law_fits : MF := q_law_fits 50
noncomputable def t_law_right_1  : MT :=
  (uAnd (uTru (eCall m_law_fits (aCons (eVar 1) (aCons (eVar 4) aNil)))) (uNot (uTru (eCall m_law_fits (aCons (eVar 2) (aCons (eVar 4) aNil))))))
noncomputable def b_law_right : MS :=
  (sSeq (sIf (uV (eOp isND (eVar 0) (eC .non))) (sRet (eOp eqE (eLc false (wD (eVar 3)) (hNm 4) t_law_right_1 (eVar 4) [4]) (eLst false aNil))) sNext)
    (sSeq (sIf (uOr (uNot (uTru (eCall isiD (aCons (eVar 0) (aCons (eC (.cls "Happening")) aNil))))) (uOr (uNot (uTru (eCall m_is_name (aCons (eUn (fldD "kind") (eVar 0)) aNil)))) (uNot (uTru (eCall m_is_name (aCons (eUn (fldD "place") (eVar 0)) aNil)))))) (sRet (eC (.bl false))) sNext)
    (sSeq (sAsg (eTup (aCons (eUn (fldD "kind") (eVar 0)) (aCons (eUn (fldD "place") (eVar 0)) (aCons (eUn (fldD "weight") (eVar 0)) aNil)))) (hNm 4))
    (sSeq (sIf (uOr (uNot (uTru (eCall isiD (aCons (eUn (fldD "weight") (eVar 0)) (aCons (eC (.ty "int")) aNil))))) (uOr (uTru (eCall isiD (aCons (eUn (fldD "weight") (eVar 0)) (aCons (eC (.ty "bool")) aNil)))) (uV (eOp ltD (eUn (fldD "weight") (eVar 0)) (eC (.int 0)))))) (sRet (eC (.bl false))) sNext)
    (sRet (eAnd (eCall m_law_fits (aCons (eVar 1) (aCons (eVar 4) aNil))) (eNot (eCall m_law_fits (aCons (eVar 2) (aCons (eVar 4) aNil))))))))))
noncomputable def m_law_right : MF := mkF 4 5 b_law_right
noncomputable def l_law_1  : MS :=
  (sSeq (sIf (uNot (uTru (eCall m_law_right (aCons (eCall m_parting (aCons (eVar 6) (aCons (eVar 7) aNil))) (aCons (eVar 1) (aCons (eVar 4) (aCons (eVar 5) aNil))))))) (sRet (eC (.bl false))) sNext)
    (sIf (uNot (uTru (eCall m_law_right (aCons (eCall m_parting (aCons (eVar 7) (aCons (eVar 6) aNil))) (aCons (eVar 4) (aCons (eVar 1) (aCons (eVar 5) aNil))))))) (sRet (eC (.bl false))) sNext))
noncomputable def l_law_2  : MS :=
  (sSeq (sAsg (eTup (aCons (eC (.str (tx "both"))) (aCons (eTup (aCons (eVar 1) (aCons (eTup (aCons (eC (.str (tx "not"))) (aCons (eTup (aCons (eVar 10) (aCons (eTup (aCons (eVar 11) aNil)) aNil))) aNil))) aNil))) aNil))) (hNm 12))
    (sIf (uNot (uTru (eCall m_law_right (aCons (eCall m_parting (aCons (eCall m_law_made (aCons (eVar 12) aNil)) (aCons (eVar 7) aNil))) (aCons (eVar 12) (aCons (eVar 4) (aCons (eCall m_law_all (aCons (eLst false (aCons (eVar 12) (aCons (eVar 4) aNil))) aNil)) aNil))))))) (sRet (eC (.bl false))) sNext))
noncomputable def b_law : MS :=
  (sSeq (sAsg (eCall m_law_tree (aCons (eCall m_law_begin (aCons (eCall m_law_cell_at (aCons (eVar 0) (aCons (eC (.int 0)) aNil))) aNil)) (aCons (eC (.int 2)) (aCons (eC (.int 2)) aNil)))) (hNm 1))
    (sSeq (sAsg (eCall m_law_begin (aCons (eCall m_law_cell_at (aCons (eVar 0) (aCons (eC (.int 1)) aNil))) aNil)) (hNm 2))
    (sSeq (sAsg (eOp modD (eCall m_law_cell_at (aCons (eVar 0) (aCons (eC (.int 2)) aNil))) (eC (.int 6))) (hNm 3))
    (sSeq (sAsg (eCall m_law_tree (aCons (eVar 2) (aCons (eC (.int 2)) (aCons (eC (.int 2)) aNil)))) (hNm 4))
    (sSeq (sIf (uV (eOp eqD (eVar 3) (eC (.int 3)))) (sAsg (eVar 1) (hNm 4)) sNext)
    (sSeq (sIf (uV (eOp eqD (eVar 3) (eC (.int 4)))) (sAsg (eTup (aCons (eC (.str (tx "not"))) (aCons (eTup (aCons (eC (.str (tx "not"))) (aCons (eVar 1) aNil))) aNil))) (hNm 4)) sNext)
    (sSeq (sIf (uV (eOp eqD (eVar 3) (eC (.int 5)))) (sAsg (eTup (aCons (eOp ixD (eLst false (aCons (eC (.str (tx "both"))) (aCons (eC (.str (tx "either"))) aNil))) (eCall m_law_next (aCons (eVar 2) (aCons (eC (.int 2)) aNil)))) (aCons (eTup (aCons (eVar 1) (aCons (eCall m_law_leaf (aCons (eVar 2) (aCons (eC (.int 2)) aNil))) aNil))) aNil))) (hNm 4)) sNext)
    (sSeq (sAsg (eCall m_law_all (aCons (eLst false (aCons (eVar 1) (aCons (eVar 4) aNil))) aNil)) (hNm 5))
    (sSeq (sAsg (eCall m_law_made (aCons (eVar 1) aNil)) (hNm 6))
    (sSeq (sAsg (eCall m_law_made (aCons (eVar 4) aNil)) (hNm 7))
    (sSeq (sFor (wRng1 (aCons (eC (.int 2)) aNil)) (hNm 8) l_law_1)
    (sSeq (sAsg (eCall m_parting (aCons (eVar 6) (aCons (eVar 7) aNil))) (hNm 9))
    (sSeq (sIf (uV (eOp notND (eVar 9) (eC .non))) (sFor (wD (eLst false (aCons (eTup (aCons (eC (.str (tx "kind"))) (aCons (eUn (fldD "kind") (eVar 9)) aNil))) (aCons (eTup (aCons (eC (.str (tx "place"))) (aCons (eUn (fldD "place") (eVar 9)) aNil))) aNil)))) (hTup 2 (hCons (hNm 10) (hCons (hNm 11) hNil))) l_law_2) sNext)
    (sRet (eAnd (eOp isND (eCall m_parting (aCons (eVar 6) (aCons (eVar 6) aNil))) (eC .non)) (eOp isND (eCall m_parting (aCons (eVar 7) (aCons (eVar 7) aNil))) (eC .non)))))))))))))))))
noncomputable def m_law : MF := mkF 1 13 b_law
end Mo
namespace Pm
@[simp] theorem cf_0 : inT "Happening" = true := by decide +kernel
@[simp] theorem cf_1 : isSub "Happening" "Happening" = true := by decide +kernel
@[simp] theorem cf_2 : isSub "Happening" "Fit" = false := by decide +kernel
@[simp] theorem cf_3 : isSub "Happening" "Any" = false := by decide +kernel
@[simp] theorem cf_4 : isSub "Happening" "Kind" = false := by decide +kernel
@[simp] theorem cf_5 : isSub "Happening" "Place" = false := by decide +kernel
@[simp] theorem cf_6 : isSub "Happening" "Least" = false := by decide +kernel
@[simp] theorem cf_7 : isSub "Happening" "Not" = false := by decide +kernel
@[simp] theorem cf_8 : isSub "Happening" "Both" = false := by decide +kernel
@[simp] theorem cf_9 : isSub "Happening" "Either" = false := by decide +kernel
@[simp] theorem cf_10 : isSub "Happening" "Turns" = false := by decide +kernel
@[simp] theorem cf_11 : hasF "Happening" "kind" = true := by decide +kernel
@[simp] theorem cf_12 : hasF "Happening" "place" = true := by decide +kernel
@[simp] theorem cf_13 : hasF "Happening" "weight" = true := by decide +kernel
@[simp] theorem cf_14 : inT "Fit" = true := by decide +kernel
@[simp] theorem cf_15 : inT "Any" = true := by decide +kernel
@[simp] theorem cf_16 : isSub "Any" "Happening" = false := by decide +kernel
@[simp] theorem cf_17 : isSub "Any" "Fit" = true := by decide +kernel
@[simp] theorem cf_18 : isSub "Any" "Any" = true := by decide +kernel
@[simp] theorem cf_19 : isSub "Any" "Kind" = false := by decide +kernel
@[simp] theorem cf_20 : isSub "Any" "Place" = false := by decide +kernel
@[simp] theorem cf_21 : isSub "Any" "Least" = false := by decide +kernel
@[simp] theorem cf_22 : isSub "Any" "Not" = false := by decide +kernel
@[simp] theorem cf_23 : isSub "Any" "Both" = false := by decide +kernel
@[simp] theorem cf_24 : isSub "Any" "Either" = false := by decide +kernel
@[simp] theorem cf_25 : isSub "Any" "Turns" = false := by decide +kernel
@[simp] theorem cf_26 : inT "Named" = true := by decide +kernel
@[simp] theorem cf_27 : hasF "Named" "names" = true := by decide +kernel
@[simp] theorem cf_28 : inT "Kind" = true := by decide +kernel
@[simp] theorem cf_29 : isSub "Kind" "Happening" = false := by decide +kernel
@[simp] theorem cf_30 : isSub "Kind" "Fit" = true := by decide +kernel
@[simp] theorem cf_31 : isSub "Kind" "Any" = false := by decide +kernel
@[simp] theorem cf_32 : isSub "Kind" "Kind" = true := by decide +kernel
@[simp] theorem cf_33 : isSub "Kind" "Place" = false := by decide +kernel
@[simp] theorem cf_34 : isSub "Kind" "Least" = false := by decide +kernel
@[simp] theorem cf_35 : isSub "Kind" "Not" = false := by decide +kernel
@[simp] theorem cf_36 : isSub "Kind" "Both" = false := by decide +kernel
@[simp] theorem cf_37 : isSub "Kind" "Either" = false := by decide +kernel
@[simp] theorem cf_38 : isSub "Kind" "Turns" = false := by decide +kernel
@[simp] theorem cf_39 : hasF "Kind" "names" = true := by decide +kernel
@[simp] theorem cf_40 : inT "Place" = true := by decide +kernel
@[simp] theorem cf_41 : isSub "Place" "Happening" = false := by decide +kernel
@[simp] theorem cf_42 : isSub "Place" "Fit" = true := by decide +kernel
@[simp] theorem cf_43 : isSub "Place" "Any" = false := by decide +kernel
@[simp] theorem cf_44 : isSub "Place" "Kind" = false := by decide +kernel
@[simp] theorem cf_45 : isSub "Place" "Place" = true := by decide +kernel
@[simp] theorem cf_46 : isSub "Place" "Least" = false := by decide +kernel
@[simp] theorem cf_47 : isSub "Place" "Not" = false := by decide +kernel
@[simp] theorem cf_48 : isSub "Place" "Both" = false := by decide +kernel
@[simp] theorem cf_49 : isSub "Place" "Either" = false := by decide +kernel
@[simp] theorem cf_50 : isSub "Place" "Turns" = false := by decide +kernel
@[simp] theorem cf_51 : hasF "Place" "names" = true := by decide +kernel
@[simp] theorem cf_52 : inT "Least" = true := by decide +kernel
@[simp] theorem cf_53 : isSub "Least" "Happening" = false := by decide +kernel
@[simp] theorem cf_54 : isSub "Least" "Fit" = true := by decide +kernel
@[simp] theorem cf_55 : isSub "Least" "Any" = false := by decide +kernel
@[simp] theorem cf_56 : isSub "Least" "Kind" = false := by decide +kernel
@[simp] theorem cf_57 : isSub "Least" "Place" = false := by decide +kernel
@[simp] theorem cf_58 : isSub "Least" "Least" = true := by decide +kernel
@[simp] theorem cf_59 : isSub "Least" "Not" = false := by decide +kernel
@[simp] theorem cf_60 : isSub "Least" "Both" = false := by decide +kernel
@[simp] theorem cf_61 : isSub "Least" "Either" = false := by decide +kernel
@[simp] theorem cf_62 : isSub "Least" "Turns" = false := by decide +kernel
@[simp] theorem cf_63 : hasF "Least" "weight" = true := by decide +kernel
@[simp] theorem cf_64 : inT "Not" = true := by decide +kernel
@[simp] theorem cf_65 : isSub "Not" "Happening" = false := by decide +kernel
@[simp] theorem cf_66 : isSub "Not" "Fit" = true := by decide +kernel
@[simp] theorem cf_67 : isSub "Not" "Any" = false := by decide +kernel
@[simp] theorem cf_68 : isSub "Not" "Kind" = false := by decide +kernel
@[simp] theorem cf_69 : isSub "Not" "Place" = false := by decide +kernel
@[simp] theorem cf_70 : isSub "Not" "Least" = false := by decide +kernel
@[simp] theorem cf_71 : isSub "Not" "Not" = true := by decide +kernel
@[simp] theorem cf_72 : isSub "Not" "Both" = false := by decide +kernel
@[simp] theorem cf_73 : isSub "Not" "Either" = false := by decide +kernel
@[simp] theorem cf_74 : isSub "Not" "Turns" = false := by decide +kernel
@[simp] theorem cf_75 : hasF "Not" "fit" = true := by decide +kernel
@[simp] theorem cf_76 : inT "Several" = true := by decide +kernel
@[simp] theorem cf_77 : hasF "Several" "fits" = true := by decide +kernel
@[simp] theorem cf_78 : inT "Both" = true := by decide +kernel
@[simp] theorem cf_79 : isSub "Both" "Happening" = false := by decide +kernel
@[simp] theorem cf_80 : isSub "Both" "Fit" = true := by decide +kernel
@[simp] theorem cf_81 : isSub "Both" "Any" = false := by decide +kernel
@[simp] theorem cf_82 : isSub "Both" "Kind" = false := by decide +kernel
@[simp] theorem cf_83 : isSub "Both" "Place" = false := by decide +kernel
@[simp] theorem cf_84 : isSub "Both" "Least" = false := by decide +kernel
@[simp] theorem cf_85 : isSub "Both" "Not" = false := by decide +kernel
@[simp] theorem cf_86 : isSub "Both" "Both" = true := by decide +kernel
@[simp] theorem cf_87 : isSub "Both" "Either" = false := by decide +kernel
@[simp] theorem cf_88 : isSub "Both" "Turns" = false := by decide +kernel
@[simp] theorem cf_89 : hasF "Both" "fits" = true := by decide +kernel
@[simp] theorem cf_90 : inT "Either" = true := by decide +kernel
@[simp] theorem cf_91 : isSub "Either" "Happening" = false := by decide +kernel
@[simp] theorem cf_92 : isSub "Either" "Fit" = true := by decide +kernel
@[simp] theorem cf_93 : isSub "Either" "Any" = false := by decide +kernel
@[simp] theorem cf_94 : isSub "Either" "Kind" = false := by decide +kernel
@[simp] theorem cf_95 : isSub "Either" "Place" = false := by decide +kernel
@[simp] theorem cf_96 : isSub "Either" "Least" = false := by decide +kernel
@[simp] theorem cf_97 : isSub "Either" "Not" = false := by decide +kernel
@[simp] theorem cf_98 : isSub "Either" "Both" = false := by decide +kernel
@[simp] theorem cf_99 : isSub "Either" "Either" = true := by decide +kernel
@[simp] theorem cf_100 : isSub "Either" "Turns" = false := by decide +kernel
@[simp] theorem cf_101 : hasF "Either" "fits" = true := by decide +kernel
@[simp] theorem cf_102 : inT "Turns" = true := by decide +kernel
@[simp] theorem cf_103 : isSub "Turns" "Happening" = false := by decide +kernel
@[simp] theorem cf_104 : isSub "Turns" "Fit" = false := by decide +kernel
@[simp] theorem cf_105 : isSub "Turns" "Any" = false := by decide +kernel
@[simp] theorem cf_106 : isSub "Turns" "Kind" = false := by decide +kernel
@[simp] theorem cf_107 : isSub "Turns" "Place" = false := by decide +kernel
@[simp] theorem cf_108 : isSub "Turns" "Least" = false := by decide +kernel
@[simp] theorem cf_109 : isSub "Turns" "Not" = false := by decide +kernel
@[simp] theorem cf_110 : isSub "Turns" "Both" = false := by decide +kernel
@[simp] theorem cf_111 : isSub "Turns" "Either" = false := by decide +kernel
@[simp] theorem cf_112 : isSub "Turns" "Turns" = true := by decide +kernel
@[simp] theorem cf_113 : hasF "Turns" "kinds" = true := by decide +kernel
@[simp] theorem cf_114 : hasF "Turns" "places" = true := by decide +kernel
@[simp] theorem cf_115 : hasF "Turns" "weights" = true := by decide +kernel
@[simp] theorem cf_116 : inX "BellError" = true := by decide +kernel
@[simp] theorem cf_117 : isSubX "BellError" "NoHappening" = false := by decide +kernel
@[simp] theorem cf_118 : isSubX "BellError" "NoFit" = false := by decide +kernel
@[simp] theorem cf_119 : inX "NoHappening" = true := by decide +kernel
@[simp] theorem cf_120 : isSubX "NoHappening" "NoHappening" = true := by decide +kernel
@[simp] theorem cf_121 : isSubX "NoHappening" "NoFit" = false := by decide +kernel
@[simp] theorem cf_122 : inX "NoFit" = true := by decide +kernel
@[simp] theorem cf_123 : isSubX "NoFit" "NoHappening" = false := by decide +kernel
@[simp] theorem cf_124 : isSubX "NoFit" "NoFit" = true := by decide +kernel
@[simp] theorem cf_125 : "int" ∈ bTys := by decide +kernel
@[simp] theorem cf_126 : "bool" ∈ bTys := by decide +kernel
@[simp] theorem cf_127 : "str" ∈ bTys := by decide +kernel
@[simp] theorem cf_128 : "NoneType" ∈ bTys := by decide +kernel
@[simp] theorem cf_129 : "tuple" ∈ bTys := by decide +kernel
@[simp] theorem cf_130 : "list" ∈ bTys := by decide +kernel
@[simp] theorem cf_131 : "dict" ∈ bTys := by decide +kernel
@[simp] theorem most_eq : most = 1000000 := rfl
end Pm
namespace Pm
/-! # plain proofs: what is common -/
theorem pyIx_mem {α : Type} {xs : List α} {v : Int} (h0 : 0 ≤ v) (h1 : v < xs.length) : ∃ d, pyIx xs v = some d ∧ d ∈ xs := by
  unfold pyIx
  rw [if_pos h0]
  have : v.toNat < xs.length := by omega
  exact ⟨xs[v.toNat], List.getElem?_eq_getElem this, List.getElem_mem this⟩
theorem lcL_map {g : MG} {tt : MT} {te : ME} {e : En} {c : Option Nat} {all : List Dx} {f : Dx → Dx} {s : Sto} (st : stands c all s) : ∀ xs : List Dx, (∀ x ∈ xs, ∃ e1, g x e s = some e1 ∧ tt e1 s = .ok true s ∧ te e1 s = .ok (f x) s) → lcL g tt te e c all xs s = .ok (xs.map f) s
  | [], _ => by unfold lcL; rw [if_pos st]; rfl
  | x :: xs, h => by
    obtain ⟨e1, h1, h2, h3⟩ := h x List.mem_cons_self
    have ih := lcL_map st xs fun y hy => h y (List.mem_cons_of_mem _ hy)
    unfold lcL
    rw [if_pos st, h1]
    simp [h2, h3, ih]
theorem lcL_inv {g : MG} {tt : MT} {te : ME} {e : En} {c : Option Nat} {all : List Dx} {P : Sto → Prop} {R : Dx → Prop} (st : ∀ s, P s → stands c all s) : ∀ xs : List Dx, (∀ x ∈ xs, ∀ s, P s → ∃ e1 y s1, g x e s = some e1 ∧ tt e1 s = .ok true s ∧ te e1 s = .ok y s1 ∧ P s1 ∧ R y) →
    ∀ s, P s → ∃ ys s1, lcL g tt te e c all xs s = .ok ys s1 ∧ P s1 ∧ ys.length = xs.length ∧ ∀ y ∈ ys, R y
  | [], _, s, p => ⟨[], s, by unfold lcL; rw [if_pos (st s p)], p, rfl, fun _ hy => by cases hy⟩
  | x :: xs, h, s, p => by
    obtain ⟨e1, y, s1, h1, h2, h3, p1, r⟩ := h x List.mem_cons_self s p
    obtain ⟨ys, s2, h4, p2, hl, hr⟩ := lcL_inv st xs (fun y hy => h y (List.mem_cons_of_mem _ hy)) s1 p1
    refine ⟨y :: ys, s2, ?_, p2, by simp [hl], fun q hq => (List.mem_cons.mp hq).elim (fun z => z ▸ r) (hr q)⟩
    unfold lcL
    rw [if_pos (st s p), h1]
    simp [h2, h3, h4]
theorem forL_post {g : MG} {b : MS} {c : Option Nat} {all : List Dx} {P : En → Sto → Prop} {Z : S → Prop} (st : ∀ e s, P e s → stands c all s) (hz : ∀ e s, P e s → Z (.nx e s)) : ∀ xs : List Dx, (∀ x ∈ xs, ∀ e s, P e s → ∃ e1, g x e s = some e1 ∧ (match b e1 s with
    | .nx e2 s2 => P e2 s2
    | .ct e2 s2 => P e2 s2
    | .bk e2 s2 => Z (.nx e2 s2)
    | r => Z r)) → ∀ e s, P e s → Z (forL g b c all xs e s)
  | [], _, e, s, p => by unfold forL; rw [if_pos (st e s p)]; exact hz e s p
  | x :: xs, h, e, s, p => by
    obtain ⟨e1, h1, h2⟩ := h x List.mem_cons_self e s p
    have ih := forL_post st hz xs fun y hy => h y (List.mem_cons_of_mem _ hy)
    unfold forL
    rw [if_pos (st e s p), h1]
    cases hb : b e1 s with
    | nx e2 s2 => simp only [hb] at h2 ⊢; exact ih _ _ h2
    | ct e2 s2 => simp only [hb] at h2 ⊢; exact ih _ _ h2
    | bk e2 s2 => simp only [hb] at h2 ⊢; exact h2
    | rt v s2 => simp only [hb] at h2 ⊢; exact h2
    | exc C fs e2 s2 => simp only [hb] at h2 ⊢; exact h2
    | stuck => simp only [hb] at h2 ⊢; exact h2
theorem rng_len (lo : Int) (n : Nat) : (rng lo n).length = n := by simp [rng]
theorem rng_mem {lo : Int} {n : Nat} {x : Dx} (h : x ∈ rng lo n) : ∃ i : Nat, i < n ∧ x = .int (lo + i) := by
  unfold rng at h
  obtain ⟨i, h1, rfl⟩ := List.mem_map.mp h
  exact ⟨i, List.mem_range.mp h1, rfl⟩
def toR : S → R Dx
  | .nx _ s => .ok .non s
  | .rt v s => .ok v s
  | .exc C f _ s => .exc C f s
  | _ => .stuck
theorem mk_R {k n : Nat} {b : MS} {ds : List Dx} {s : Sto} {P : R Dx → Prop} (hl : ds.length = k) (h : P (toR (b ⟨env0 n ds, [], none⟩ s))) : P (mkF k n b ds s) := by
  have e : mkF k n b ds s = toR (b ⟨env0 n ds, [], none⟩ s) := by
    unfold mkF
    rw [if_pos hl]
    cases b ⟨env0 n ds, [], none⟩ s <;> rfl
  rw [e]; exact h
@[simp] theorem at0 {α : Type} (s0 : List α) (z : α) (l : List α) : (s0 ++ z :: l)[s0.length]? = some z := by simp
@[simp] theorem set0 {α : Type} (s0 : List α) (z y : α) (l : List α) : (s0 ++ z :: l).set s0.length y = s0 ++ y :: l := by simp
/-- a state of the drawing numbers -/
def IsSt (z : Cl) : Prop := ∃ a b c : Int, z = .lst [.int a, .int b, .int c]
/-- a list or an object stands there -/
def liveC : Option Cl → Bool
  | some (.lst _) => true
  | some (.obj _ _) => true
  | _ => false
@[simp] theorem liveC_lst (xs : List Dx) : liveC (some (.lst xs)) = true := rfl
@[simp] theorem liveC_obj (C : String) (fs : Fs) : liveC (some (.obj C fs)) = true := rfl
/-- what isinstance can tell -/
def Known (s : Sto) : Dx → Bool
  | .fro _ => false
  | .cls _ => false
  | .ty _ => false
  | .unk => false
  | .cell n => liveC s[n]?
  | _ => true
def isW : Dx → Bool
  | .int _ => true
  | _ => false
def letters : Tx := tx "abcdefghijklmnopqrstuvwxyz"
def nameB (z : Tx) : Bool := decide (z ≠ []) && (decide (z.length ≤ 8) && z.all fun c => decide (c ∈ letters))
def nameD : Dx → Bool
  | .str z => nameB z
  | _ => false
def shortD : Dx → Prop
  | .str z => z.length ≤ most
  | _ => True
theorem bools_map {α : Type} (f : α → Bool) (g : α → Dx) (h : ∀ x, g x = .bl (f x)) : ∀ xs : List α, dBools (xs.map g) = some (xs.map f)
  | [] => rfl
  | x :: xs => by simp [h, bools_map f g h xs]
theorem cut_to {α : Type} (z : List α) (n : Int) (h : 0 ≤ n) : cut z none (some n) = z.take n.toNat := by
  unfold cut sIx
  have : ¬ n < 0 := by omega
  simp only [this, if_false, List.drop_zero, Nat.sub_zero]
  rw [List.take_eq_take_iff]; omega
theorem cut_from {α : Type} (z : List α) (n : Int) (h : 0 ≤ n) : cut z (some n) none = z.drop n.toNat := by
  unfold cut sIx
  have : ¬ n < 0 := by omega
  simp only [this, if_false]
  by_cases hl : n.toNat ≤ z.length
  · rw [Nat.min_eq_left hl, List.take_of_length_le]
    rw [List.length_drop]; exact Nat.le_refl _
  · rw [Nat.min_eq_right (by omega), List.drop_length, List.drop_eq_nil_of_le (by omega)]
    simp
theorem nameB_of {z : Tx} (h0 : z ≠ []) (h8 : z.length ≤ 8) (h : ∀ c ∈ z, c ∈ letters) : nameB z = true := by
  unfold nameB
  simp only [Bool.and_eq_true, decide_eq_true_eq, List.all_eq_true]
  exact ⟨h0, h8, h⟩
theorem nameB_len {z : Tx} (h : nameB z = true) : z ≠ [] ∧ z.length ≤ 8 ∧ ∀ c ∈ z, c ∈ letters := by
  unfold nameB at h
  simpa only [Bool.and_eq_true, decide_eq_true_eq, List.all_eq_true] using h
theorem strs_map {α : Type} (f : α → Tx) (g : α → Dx) (h : ∀ x, g x = .str (f x)) : ∀ xs : List α, dStrs (xs.map g) = some (xs.map f)
  | [] => rfl
  | x :: xs => by simp [h, strs_map f g h xs]
/-- texts of one letter each -/
theorem one_strs : ∀ {ys : List Dx}, (∀ y ∈ ys, ∃ c, c ∈ letters ∧ y = .str [c]) → ∃ zs : List Tx, dStrs ys = some zs ∧ zs.length = ys.length ∧ ∀ z ∈ zs, ∃ c, c ∈ letters ∧ z = [c]
  | [], _ => ⟨[], rfl, rfl, fun _ h => by cases h⟩
  | y :: ys, h => by
    obtain ⟨c, hc, rfl⟩ := h y List.mem_cons_self
    obtain ⟨zs, h1, h2, h3⟩ := one_strs fun q hq => h q (List.mem_cons_of_mem _ hq)
    refine ⟨[c] :: zs, by simp [h1], by simp [h2], fun z hz => ?_⟩
    rcases List.mem_cons.mp hz with rfl | hz
    · exact ⟨c, hc, rfl⟩
    · exact h3 z hz
theorem one_join : ∀ {zs : List Tx}, (∀ z ∈ zs, ∃ c, c ∈ letters ∧ z = [c]) → (joinT [] zs).length = zs.length ∧ (∀ c ∈ joinT [] zs, c ∈ letters) ∧ (zs.map (·.length)).sum = zs.length
  | [], _ => ⟨rfl, (fun _ h => by cases h), rfl⟩
  | z :: zs, h => by
    have flat : ∀ {zs : List Tx}, (∀ z ∈ zs, ∃ c, c ∈ letters ∧ z = [c]) → ((zs.map fun y => [] ++ y).flatten).length = zs.length ∧ (∀ c ∈ (zs.map fun y => [] ++ y).flatten, c ∈ letters) ∧ (zs.map (·.length)).sum = zs.length := by
      intro zs
      induction zs with
      | nil => exact fun _ => ⟨rfl, (fun _ h => by cases h), rfl⟩
      | cons z zs ih =>
        intro h
        obtain ⟨c, hc, rfl⟩ := h z List.mem_cons_self
        obtain ⟨h1, h2, h3⟩ := ih fun q hq => h q (List.mem_cons_of_mem _ hq)
        refine ⟨by simp at h1 ⊢; omega, fun q hq => ?_, by simp at h3 ⊢; omega⟩
        rw [List.map_cons, List.flatten_cons] at hq
        rcases List.mem_append.mp hq with hq | hq
        · simp at hq; subst hq; exact hc
        · exact h2 q hq
    obtain ⟨h1, h2, h3⟩ := flat h
    have e : joinT [] (z :: zs) = ((z :: zs).map fun y => [] ++ y).flatten := by simp [joinT]
    rw [e]
    exact ⟨h1, h2, h3⟩
/-! ## isinstance of what is known -/
def isA (s : Sto) (X : String) (d : Dx) : Bool := (isCl s X d).getD false
def isB (s : Sto) (b : String) (d : Dx) : Bool := (isTy s b d).getD false
theorem isCl_known {s : Sto} {d : Dx} (h : Known s d = true) (X : String) : isCl s X d = some (isA s X d) := by
  unfold isA
  cases d with
  | cell n =>
    simp only [Known] at h
    cases hs : s[n]? with
    | none => rw [hs] at h; cases h
    | some c => rw [hs] at h; cases c <;> first | (exact absurd (show false = true from h) (by decide)) | simp [isCl, hs]
  | _ => first
    | (simp [Known] at h; done)
    | simp [isCl]
theorem isTy_known {s : Sto} {d : Dx} (h : Known s d = true) (b : String) : isTy s b d = some (isB s b d) := by
  unfold isB
  cases d with
  | cell n =>
    simp only [Known] at h
    cases hs : s[n]? with
    | none => rw [hs] at h; cases h
    | some c => rw [hs] at h; cases c <;> first | (exact absurd (show false = true from h) (by decide)) | simp [isTy, hs]
  | _ => first
    | (simp [Known] at h; done)
    | simp [isTy]
def isN : Dx → Bool
  | .non => true
  | _ => false
theorem isND_known {s : Sto} {d : Dx} (h : Known s d = true) : isND d .non s = .ok (.bl (isN d)) s := by
  cases d with
  | _ => first
    | (simp [Known] at h; done)
    | simp [isN]
theorem isB_bl {s : Sto} {d : Dx} (h : Known s d = true) (k : isB s "bool" d = true) : ∃ b, d = .bl b := by
  cases d with
  | bl b => exact ⟨b, rfl⟩
  | cell n =>
    simp only [Known] at h
    cases hs : s[n]? with
    | none => rw [hs] at h; cases h
    | some c => rw [hs] at h; cases c <;> first | (exact absurd (show false = true from h) (by decide)) | simp [isB, isTy, hs] at k
  | _ => simp [isB, isTy] at k
/-- a list of the heap -/
theorem isB_list {s : Sto} {d : Dx} (h : Known s d = true) : isB s "list" d = (asM s d).isSome := by
  cases d with
  | cell n =>
    simp only [Known] at h
    cases hs : s[n]? with
    | none => rw [hs] at h; cases h
    | some c => rw [hs] at h; cases c <;> first | (exact absurd (show false = true from h) (by decide)) | simp [isB, isTy, asM, hs]
  | _ => first
    | (simp [Known] at h; done)
    | simp [isB, isTy, asM]
def namesL (xs : List Dx) : Bool := match dStrs xs with
  | some zs => zs.all nameB && decide zs.Nodup
  | none => false
def namesD (s : Sto) (d : Dx) : Bool := match asM s d with
  | some xs => namesL xs
  | none => false
theorem all_names : ∀ xs : List Dx, (xs.all nameD = true → ∃ zs, dStrs xs = some zs ∧ zs.all nameB = true ∧ zs.length = xs.length) ∧ (xs.all nameD = false → ∀ zs, dStrs xs = some zs → zs.all nameB = false)
  | [] => ⟨fun _ => ⟨[], rfl, rfl, rfl⟩, fun h => by cases h⟩
  | x :: xs => by
    obtain ⟨h1, h2⟩ := all_names xs
    refine ⟨fun h => ?_, fun h zs hz => ?_⟩
    · simp only [List.all_cons, Bool.and_eq_true] at h
      obtain ⟨zs, a, b, c⟩ := h1 h.2
      cases x with
      | str z => exact ⟨z :: zs, by simp [a], by simp only [List.all_cons, Bool.and_eq_true]; exact ⟨h.1, b⟩, by simp [c]⟩
      | _ => cases h.1
    · cases x with
      | str z =>
        simp only [dStrs, Option.map_eq_some_iff] at hz
        obtain ⟨l, hl, rfl⟩ := hz
        rw [List.all_cons] at h ⊢
        cases hn : nameB z with
        | false => rfl
        | true =>
          have hn2 : nameD (.str z) = true := hn
          rw [hn2, Bool.true_and] at h
          rw [h2 h l hl]; rfl
      | _ => cases hz
theorem eqv_strs : ∀ {xs : List Dx} {zs : List Tx}, dStrs xs = some zs → xs = zs.map Dx.str
  | [], zs, h => by cases h; rfl
  | .str z :: xs, zs, h => by
    simp only [dStrs, Option.map_eq_some_iff] at h
    obtain ⟨l, hl, rfl⟩ := h
    rw [eqv_strs hl]; rfl
  | .non :: _, _, h => by cases h
  | .bl _ :: _, _, h => by cases h
  | .int _ :: _, _, h => by cases h
  | .tup _ :: _, _, h => by cases h
  | .lst _ :: _, _, h => by cases h
  | .fro _ :: _, _, h => by cases h
  | .dct :: _, _, h => by cases h
  | .obj _ _ :: _, _, h => by cases h
  | .cell _ :: _, _, h => by cases h
  | .cls _ :: _, _, h => by cases h
  | .ty _ :: _, _, h => by cases h
theorem shp_strs (zs : List Tx) : shp 40 (.lst (zs.map Dx.str)) = true := by simp [shp, List.all_map, Function.comp_def]
theorem eqvL_strs : ∀ (a b : List Tx), eqvL (a.map Dx.str) (b.map Dx.str) = decide (a = b)
  | [], [] => rfl
  | [], _ :: _ => rfl
  | _ :: _, [] => rfl
  | x :: a, y :: b => by
    simp only [List.map_cons, eqvL, eqv, eqvL_strs a b]
    by_cases h : x = y <;> simp [h]
theorem res_asM {s : Sto} {d : Dx} {xs : List Dx} (h : asM s d = some xs) : res s d = .lst xs := by
  cases d with
  | lst ys => cases h; rfl
  | cell n =>
    simp only [asM] at h
    cases hs : s[n]? with
    | none => simp [hs] at h
    | some c => cases c <;> simp [hs] at h; subst h; simp [res, hs]
  | _ => cases h
/-- lists of texts compared -/
theorem eqD_strs {s : Sto} {x y : Dx} {a b : List Tx} (h : asM s x = some (a.map Dx.str)) (k : asM s y = some (b.map Dx.str)) : eqD x y s = .ok (.bl (decide (a = b))) s := by
  unfold eqD
  rw [res_asM h, res_asM k, shp_strs, shp_strs]
  simp only [Bool.and_self, if_true, eqv, eqvL_strs]
theorem neD_strs {s : Sto} {x y : Dx} {a b : List Tx} (h : asM s x = some (a.map Dx.str)) (k : asM s y = some (b.map Dx.str)) : neD x y s = .ok (.bl (!decide (a = b))) s := by
  unfold neD
  rw [res_asM h, res_asM k, shp_strs, shp_strs]
  simp only [Bool.and_self, if_true, eqv, eqvL_strs]
theorem asL_asM {s : Sto} {d : Dx} {xs : List Dx} (h : asM s d = some xs) : asL s d = some xs := by
  cases d with
  | lst ys => exact h
  | cell n => exact h
  | _ => cases h
theorem asQ_asM {s : Sto} {d : Dx} {xs : List Dx} (h : asM s d = some xs) : asQ s d = some xs := by
  cases d with
  | lst ys => exact h
  | cell n => exact h
  | _ => cases h
/-- walking a list, its length, its likes -/
theorem wD_asM {s : Sto} {d : Dx} {xs : List Dx} {a : ME} {e : En} (h : asM s d = some xs) (k : a e s = .ok d s) : ∃ c, wD a e s = .ok (xs, c) s ∧ stands c xs s := by
  unfold wD
  rw [k]
  cases d with
  | lst ys => cases h; exact ⟨none, rfl, trivial⟩
  | cell n =>
    simp only [asM] at h
    cases hs : s[n]? with
    | none => simp [hs] at h
    | some c => cases c <;> simp [hs] at h; subst h; exact ⟨some n, by simp [hs], hs⟩
  | _ => cases h
theorem lenD_asM {s : Sto} {d : Dx} {xs : List Dx} (h : asM s d = some xs) : lenD [d] s = .ok (.int xs.length) s := by
  cases d with
  | lst ys => cases h; rfl
  | cell n => rw [lenD_cell, asQ_asM h]
  | _ => cases h
theorem lenSetD_asM {s : Sto} {d : Dx} {xs : List Dx} {zs : List Tx} (h : asM s d = some xs) (k : dStrs xs = some zs) (l : zs.length ≤ 2000) : lenSetD [d] s = .ok (.int (unlike zs)) s := by
  cases d with
  | lst ys => cases h; simp [k, l]
  | cell n => rw [lenSetD_cell, asL_asM h]; simp [k, l]
  | _ => cases h
theorem listD_asM {s : Sto} {d : Dx} {xs : List Dx} {c : Bool} (h : asM s d = some xs) : listD c [d] s = newL c xs s := by
  cases d with
  | lst ys => cases h; rfl
  | cell n => rw [listD_cell, asQ_asM h]
  | _ => cases h
def ge (k : Int) : Dx → Bool
  | .int i => decide (k ≤ i)
  | _ => false
theorem isW_int {d : Dx} (h : isW d = true) : ∃ i, d = .int i := by
  cases d with
  | int i => exact ⟨i, rfl⟩
  | _ => cases h
theorem ge_no {d : Dx} {k : Int} (h : isW d = false) : ge k d = false := by
  cases d with
  | int i => cases h
  | _ => rfl
theorem forL_idx {g : MG} {b : MS} {c : Option Nat} {all : List Dx} {P : Nat → En → Sto → Prop} {Z : S → Prop} (st : ∀ i e s, P i e s → stands c all s) : ∀ (xs : List Dx) (n : Nat), (∀ e s, P (n + xs.length) e s → Z (.nx e s)) → (∀ x ∈ xs, ∀ i e s, i < n + xs.length → P i e s → ∃ e1, g x e s = some e1 ∧ (match b e1 s with
    | .nx e2 s2 => P (i + 1) e2 s2
    | .ct e2 s2 => P (i + 1) e2 s2
    | .bk e2 s2 => Z (.nx e2 s2)
    | r => Z r)) → ∀ e s, P n e s → Z (forL g b c all xs e s)
  | [], n, hz, _, e, s, p => by unfold forL; rw [if_pos (st n e s p)]; exact hz e s p
  | x :: xs, n, hz, h, e, s, p => by
    obtain ⟨e1, h1, h2⟩ := h x List.mem_cons_self n e s (by rw [List.length_cons]; omega) p
    have ih := forL_idx st xs (n + 1) (fun e s q => hz e s (by rw [List.length_cons]; rw [Nat.add_right_comm, Nat.add_assoc] at q; exact q)) fun y hy i e s hi => h y (List.mem_cons_of_mem _ hy) i e s (by rw [List.length_cons]; omega)
    unfold forL
    rw [if_pos (st n e s p), h1]
    cases hb : b e1 s with
    | nx e2 s2 => simp only [hb] at h2 ⊢; exact ih _ _ h2
    | ct e2 s2 => simp only [hb] at h2 ⊢; exact ih _ _ h2
    | bk e2 s2 => simp only [hb] at h2 ⊢; exact h2
    | rt v s2 => simp only [hb] at h2 ⊢; exact h2
    | exc C fs e2 s2 => simp only [hb] at h2 ⊢; exact h2
    | stuck => simp only [hb] at h2 ⊢; exact h2
@[simp] theorem atN {α : Type} (s0 : List α) (z : α) (l : List α) (c : α) : (s0 ++ z :: (l ++ [c]))[s0.length + (l.length + 1)]? = some c := by
  rw [List.getElem?_append_right (by omega), show s0.length + (l.length + 1) - s0.length = l.length + 1 from by omega]
  simp
@[simp] theorem setN {α : Type} (s0 : List α) (z : α) (l : List α) (c d : α) : (s0 ++ z :: (l ++ [c])).set (s0.length + (l.length + 1)) d = s0 ++ z :: (l ++ [d]) := by
  rw [List.set_append_right _ _ (by omega), show s0.length + (l.length + 1) - s0.length = l.length + 1 from by omega]
  simp
theorem flat_strs (zs : List Tx) : (zs.map Dx.str).all flat = true := by simp [List.all_map, flat, Function.comp_def]
theorem any_strs (v : Tx) (zs : List Tx) : ((zs.map Dx.str).any fun y => eqv y (.str v)) = decide (v ∈ zs) := by
  induction zs with
  | nil => rfl
  | cons z zs ih =>
    rw [List.map_cons, List.any_cons, ih]
    simp only [eqv]
    by_cases h : z = v
    · subst h; simp
    · have : ¬ v = z := fun q => h q.symm
      by_cases h2 : v ∈ zs <;> simp [h, this, h2]
theorem inD_names {s : Sto} {n : Nat} {v : Tx} {zs : List Tx} (neg : Bool) (h : s[n]? = some (.lst (zs.map Dx.str))) : inD neg (.str v) (.cell n) s = .ok (.bl (neg != decide (v ∈ zs))) s := by
  rw [inD_cell, asQ_cell, h]
  simp only [flat_strs, any_strs, flat, Bool.and_self, if_true]
/-- what comes of a loop's step -/
def OkStep (P : En → Sto → Prop) (Z : S → Prop) : S → Prop
  | .nx e2 s2 => P e2 s2
  | .ct e2 s2 => P e2 s2
  | .bk e2 s2 => Z (.nx e2 s2)
  | r => Z r
@[simp] theorem okStep_nx (P : En → Sto → Prop) (Z : S → Prop) (e : En) (s : Sto) : OkStep P Z (.nx e s) = P e s := rfl
@[simp] theorem okStep_ct (P : En → Sto → Prop) (Z : S → Prop) (e : En) (s : Sto) : OkStep P Z (.ct e s) = P e s := rfl
@[simp] theorem okStep_rt (P : En → Sto → Prop) (Z : S → Prop) (v : Dx) (s : Sto) : OkStep P Z (.rt v s) = Z (.rt v s) := rfl
theorem forL_ok {g : MG} {b : MS} {c : Option Nat} {all : List Dx} {P : En → Sto → Prop} {Z : S → Prop} (st : ∀ e s, P e s → stands c all s) (hz : ∀ e s, P e s → Z (.nx e s)) (xs : List Dx) (h : ∀ x ∈ xs, ∀ e s, P e s → ∃ e1, g x e s = some e1 ∧ OkStep P Z (b e1 s)) (e : En) (s : Sto) (p : P e s) : Z (forL g b c all xs e s) :=
  forL_post st hz xs (fun x hx e s p => by
    obtain ⟨e1, h1, h2⟩ := h x hx e s p
    refine ⟨e1, h1, ?_⟩
    cases hb : b e1 s <;> rw [hb] at h2 <;> exact h2) e s p
theorem forL_okI {g : MG} {b : MS} {c : Option Nat} {all : List Dx} {P : Nat → En → Sto → Prop} {Z : S → Prop} (st : ∀ i e s, P i e s → stands c all s) (xs : List Dx) (hz : ∀ e s, P xs.length e s → Z (.nx e s)) (h : ∀ x ∈ xs, ∀ i e s, i < xs.length → P i e s → ∃ e1, g x e s = some e1 ∧ OkStep (P (i + 1)) Z (b e1 s)) (e : En) (s : Sto) (p : P 0 e s) : Z (forL g b c all xs e s) :=
  forL_idx st xs 0 (fun e s p => hz e s (by rw [Nat.zero_add] at p; exact p)) (fun x hx i e s hi p => by
    obtain ⟨e1, h1, h2⟩ := h x hx i e s (by omega) p
    refine ⟨e1, h1, ?_⟩
    cases hb : b e1 s <;> rw [hb] at h2 <;> exact h2) e s p
theorem namesL_bad {xs : List Dx} {x : Dx} (h : x ∈ xs) (k : nameD x = false) : namesL xs = false := by
  have ha : xs.all nameD = false := by
    rw [Bool.eq_false_iff]
    intro q
    rw [List.all_eq_true] at q
    rw [q x h] at k
    cases k
  unfold namesL
  cases hz : dStrs xs with
  | none => rfl
  | some zs => simp [(all_names xs).2 ha zs hz]
theorem strs_strs (zs : List Tx) : dStrs (zs.map Dx.str) = some zs := by
  have := strs_map (fun z : Tx => z) Dx.str (fun _ => rfl) zs
  rw [this, List.map_id']
theorem namesL_dup {zs : List Tx} (h : ¬ zs.Nodup) : namesL (zs.map Dx.str) = false := by
  unfold namesL
  rw [strs_strs]
  simp [h]
theorem namesL_ok {zs : List Tx} (h : ∀ z ∈ zs, nameB z = true) (k : zs.Nodup) : namesL (zs.map Dx.str) = true := by
  unfold namesL
  rw [strs_strs]
  simp only [Bool.and_eq_true, List.all_eq_true, decide_eq_true_eq]
  exact ⟨h, k⟩
/-- a list's items that isinstance can tell, texts not too long -/
def RdOk (s : Sto) (xs : List Dx) : Prop := xs.length ≤ 2000 ∧ ∀ x ∈ xs, Known s x = true ∧ shortD x
theorem rdOk_names {s : Sto} {zs : List Tx} (h : ∀ z ∈ zs, nameB z = true) (k : zs.length ≤ 2000) : RdOk s (zs.map Dx.str) := by
  refine ⟨by simpa using k, fun x hx => ?_⟩
  obtain ⟨z, hz, rfl⟩ := List.mem_map.mp hx
  exact ⟨rfl, Nat.le_trans (nameB_len (h z hz)).2.1 (by decide)⟩
end Pm
namespace Pm
/-- a well of drawing numbers -/
def IsW (z : Cl) : Prop := ∃ a b c d : Int, z = .lst [.int a, .int b, .int c, .int d]
end Pm
namespace Pm
/-! ## while -/
def OkW (P : Nat → En → Sto → Prop) (j : Nat) (Z : S → Prop) : S → Prop
  | .nx e2 s2 => ∃ i, i < j ∧ P i e2 s2
  | .ct e2 s2 => ∃ i, i < j ∧ P i e2 s2
  | .bk e2 s2 => Z (.nx e2 s2)
  | r => Z r
@[simp] theorem okW_nx (P : Nat → En → Sto → Prop) (j : Nat) (Z : S → Prop) (e : En) (s : Sto) : OkW P j Z (.nx e s) = ∃ i, i < j ∧ P i e s := rfl
@[simp] theorem okW_rt (P : Nat → En → Sto → Prop) (j : Nat) (Z : S → Prop) (v : Dx) (s : Sto) : OkW P j Z (.rt v s) = Z (.rt v s) := rfl
theorem whileL_ok {t : MT} {b : MS} {P : Nat → En → Sto → Prop} {Z : S → Prop} (h : ∀ j e s, P j e s → (∃ s1, t e s = .ok false s1 ∧ Z (.nx e s1)) ∨ ∃ s1, t e s = .ok true s1 ∧ OkW P j Z (b e s1)) : ∀ n j e s, j < n → P j e s → Z (whileL t b n e s)
  | 0, j, e, s, hj, _ => by omega
  | n + 1, j, e, s, hj, p => by
    unfold whileL
    rcases h j e s p with ⟨s1, h1, h2⟩ | ⟨s1, h1, h2⟩
    · rw [h1]; exact h2
    · rw [h1]
      simp only [s_ok, if_true]
      cases hb : b e s1 with
      | nx e2 s2 => rw [hb] at h2; obtain ⟨i, hi, q⟩ := h2; exact whileL_ok h n i e2 s2 (by omega) q
      | ct e2 s2 => rw [hb] at h2; obtain ⟨i, hi, q⟩ := h2; exact whileL_ok h n i e2 s2 (by omega) q
      | bk e2 s2 => rw [hb] at h2; exact h2
      | rt v s2 => rw [hb] at h2; exact h2
      | exc C fs e2 s2 => rw [hb] at h2; exact h2
      | stuck => rw [hb] at h2; exact h2
/-! ## quiet hours -/
def QD (q : Dx) : Prop := q = .non ∨ ∃ a b : Int, q = .tup [.int a, .int b] ∧ 0 ≤ a ∧ a < 1440 ∧ 0 ≤ b ∧ b < 1440 ∧ a ≠ b
def quietAt : Dx → Int → Bool
  | .tup [.int a, .int b], i => if a < b then decide (a ≤ i) && decide (i < b) else decide (a ≤ i) || decide (i < b)
  | _, _ => false
def marks (q : Dx) : List Dx := (List.range 1440).map fun (i : Nat) => Dx.bl (quietAt q i)
theorem pick {α : Type} {xs : List α} {v : Int} {P : α → Prop} (h0 : 0 ≤ v) (h1 : v < xs.length) (h : ∀ x ∈ xs, P x) : ∃ d, pyIx xs v = some d ∧ P d := by
  obtain ⟨d, a, b⟩ := pyIx_mem h0 h1
  exact ⟨d, a, h d b⟩
end Pm
namespace Pm
theorem strD_small {i : Int} {s : Sto} (h1 : -1000000000000000000000000000000 ≤ i) (h2 : i ≤ 1000000000000000000000000000000) : strD [.int i] s = .ok (.str (txI i)) s := by
  rw [strD_i, if_pos ⟨Int.le_trans (by decide) h1, Int.le_trans h2 (by decide)⟩]
end Pm
namespace Pm
theorem forL_at {g : MG} {b : MS} {c : Option Nat} {all : List Dx} {P : Nat → En → Sto → Prop} {Z : S → Prop} (st : ∀ i e s, P i e s → stands c all s) : ∀ (xs : List Dx) (n : Nat), (∀ e s, P (n + xs.length) e s → Z (.nx e s)) → (∀ i x, xs[i]? = some x → ∀ e s, P (n + i) e s → ∃ e1, g x e s = some e1 ∧ OkStep (P (n + i + 1)) Z (b e1 s)) → ∀ e s, P n e s → Z (forL g b c all xs e s)
  | [], n, hz, _, e, s, p => by unfold forL; rw [if_pos (st n e s p)]; exact hz e s p
  | x :: xs, n, hz, h, e, s, p => by
    obtain ⟨e1, h1, h2⟩ := h 0 x rfl e s p
    have ih := forL_at st xs (n + 1) (fun e s q => hz e s (by rw [List.length_cons]; rw [Nat.add_right_comm, Nat.add_assoc] at q; exact q)) fun i y hy e s q => by
      obtain ⟨e1, h1, h2⟩ := h (i + 1) y hy e s (by rw [Nat.add_right_comm, Nat.add_assoc] at q; exact q)
      exact ⟨e1, h1, by rw [show n + 1 + i + 1 = n + (i + 1) + 1 from by omega]; exact h2⟩
    unfold forL
    rw [if_pos (st n e s p), h1]
    cases hb : b e1 s with
    | nx e2 s2 => rw [hb] at h2; simp only [hb]; exact ih _ _ h2
    | ct e2 s2 => rw [hb] at h2; simp only [hb]; exact ih _ _ h2
    | bk e2 s2 => rw [hb] at h2; simp only [hb]; exact h2
    | rt v s2 => rw [hb] at h2; simp only [hb]; exact h2
    | exc C fs e2 s2 => rw [hb] at h2; simp only [hb]; exact h2
    | stuck => rw [hb] at h2; simp only [hb]; exact h2
theorem forL_okX {g : MG} {b : MS} {c : Option Nat} {all : List Dx} {P : Nat → En → Sto → Prop} {Z : S → Prop} (st : ∀ i e s, P i e s → stands c all s) (xs : List Dx) (hz : ∀ e s, P xs.length e s → Z (.nx e s)) (h : ∀ i x, xs[i]? = some x → ∀ e s, P i e s → ∃ e1, g x e s = some e1 ∧ OkStep (P (i + 1)) Z (b e1 s)) (e : En) (s : Sto) (p : P 0 e s) : Z (forL g b c all xs e s) :=
  forL_at st xs 0 (fun e s p => hz e s (by rw [Nat.zero_add] at p; exact p)) (fun i x hx e s p => by
    rw [Nat.zero_add] at p
    obtain ⟨e1, h1, h2⟩ := h i x hx e s p
    exact ⟨e1, h1, by rw [Nat.zero_add]; exact h2⟩) e s p
theorem rng_at {lo : Int} {n i : Nat} {x : Dx} (h : (rng lo n)[i]? = some x) : i < n ∧ x = .int (lo + i) := by
  unfold rng at h
  rw [List.getElem?_map, Option.map_eq_some_iff] at h
  obtain ⟨j, h1, h2⟩ := h
  have hi : i < n := by
    have := (List.getElem?_eq_some_iff.mp h1).1
    simpa using this
  rw [List.getElem?_range hi] at h1
  cases h1
  exact ⟨hi, h2.symm⟩
end Pm
namespace Pm
theorem lcL_filter {α : Type} {g : MG} {tt : MT} {te : ME} {e : En} {c : Option Nat} {all : List Dx} {s : Sto} {em f : α → Dx} {p : α → Bool} (st : stands c all s) : ∀ xs : List α, (∀ x ∈ xs, ∃ e1, g (em x) e s = some e1 ∧ tt e1 s = .ok (p x) s ∧ (p x = true → te e1 s = .ok (f x) s)) → lcL g tt te e c all (xs.map em) s = .ok ((xs.filter p).map f) s
  | [], _ => by rw [List.map_nil]; unfold lcL; rw [if_pos st]; rfl
  | x :: xs, h => by
    obtain ⟨e1, h1, h2, h3⟩ := h x List.mem_cons_self
    have ih := lcL_filter (f := f) st xs fun y hy => h y (List.mem_cons_of_mem _ hy)
    rw [List.map_cons]
    unfold lcL
    rw [if_pos st, h1]
    cases hp : p x with
    | true => simp [h2, h3 hp, ih, hp]
    | false => simp [h2, ih, hp]
theorem lcL_all {α : Type} {g : MG} {te : ME} {e : En} {c : Option Nat} {all : List Dx} {s : Sto} {em f : α → Dx} (st : stands c all s) (xs : List α) (h : ∀ x ∈ xs, ∃ e1, g (em x) e s = some e1 ∧ te e1 s = .ok (f x) s) : lcL g uYes te e c all (xs.map em) s = .ok (xs.map f) s := by
  have := lcL_filter (tt := uYes) (te := te) (f := f) (p := fun _ => true) st xs (fun x hx => by
    obtain ⟨e1, h1, h2⟩ := h x hx
    exact ⟨e1, h1, rfl, fun _ => h2⟩)
  rw [this]
  congr 2
  exact List.filter_eq_self.mpr fun _ _ => rfl
/-- by places -/
theorem lcL_idx {g : MG} {te : ME} {e : En} {c : Option Nat} {all : List Dx} {P : Sto → Prop} {R : Nat → Dx → Prop} (st : ∀ s, P s → stands c all s) : ∀ (xs : List Dx) (n : Nat), (∀ i x, xs[i]? = some x → ∀ s, P s → ∃ e1 y s1, g x e s = some e1 ∧ te e1 s = .ok y s1 ∧ P s1 ∧ R (n + i) y) →
    ∀ s, P s → ∃ ys s1, lcL g uYes te e c all xs s = .ok ys s1 ∧ P s1 ∧ ys.length = xs.length ∧ ∀ i y, ys[i]? = some y → R (n + i) y
  | [], _, _, s, p => ⟨[], s, by unfold lcL; rw [if_pos (st s p)], p, rfl, fun _ _ hy => by simp at hy⟩
  | x :: xs, n, h, s, p => by
    obtain ⟨e1, y, s1, h1, h3, p1, r⟩ := h 0 x rfl s p
    obtain ⟨ys, s2, h4, p2, hl, hr⟩ := lcL_idx st xs (n + 1) (fun i y hy s p => by
      obtain ⟨e1, y, s1, h1, h3, p1, r⟩ := h (i + 1) y hy s p
      exact ⟨e1, y, s1, h1, h3, p1, by rw [show n + 1 + i = n + (i + 1) from by omega]; exact r⟩) s1 p1
    refine ⟨y :: ys, s2, ?_, p2, by simp [hl], fun i q hq => ?_⟩
    · unfold lcL
      rw [if_pos (st s p), h1]
      simp [h3, h4]
    · cases i with
      | zero => cases hq; exact r
      | succ i => rw [show n + (i + 1) = n + 1 + i from by omega]; exact hr i q hq
theorem ints_map {α : Type} (f : α → Int) (g : α → Dx) (h : ∀ x, g x = .int (f x)) : ∀ xs : List α, dInts (xs.map g) = some (xs.map f)
  | [] => rfl
  | x :: xs => by simp [h, ints_map f g h xs]
theorem leastOf_le : ∀ (l : List Int) (i : Int), leastOf i l ≤ i ∧ ∀ x ∈ l, leastOf i l ≤ x
  | [], i => ⟨Int.le_refl _, fun _ h => by cases h⟩
  | j :: l, i => by
    unfold leastOf
    by_cases h : j < i
    · rw [if_pos h]
      obtain ⟨h1, h2⟩ := leastOf_le l j
      exact ⟨by omega, fun x hx => (List.mem_cons.mp hx).elim (fun e => e ▸ h1) (h2 x)⟩
    · rw [if_neg h]
      obtain ⟨h1, h2⟩ := leastOf_le l i
      exact ⟨h1, fun x hx => (List.mem_cons.mp hx).elim (fun e => by rw [e]; omega) (h2 x)⟩
theorem leastOf_mem : ∀ (l : List Int) (i : Int), leastOf i l = i ∨ leastOf i l ∈ l
  | [], i => .inl rfl
  | j :: l, i => by
    unfold leastOf
    by_cases h : j < i
    · rw [if_pos h]
      rcases leastOf_mem l j with h1 | h1
      · rw [h1]; exact .inr List.mem_cons_self
      · exact .inr (List.mem_cons_of_mem _ h1)
    · rw [if_neg h]
      rcases leastOf_mem l i with h1 | h1
      · exact .inl h1
      · exact .inr (List.mem_cons_of_mem _ h1)
def leastL : List Int → Int
  | [] => 0
  | i :: l => leastOf i l
theorem leastL_spec {l : List Int} (h : l ≠ []) : leastL l ∈ l ∧ ∀ x ∈ l, leastL l ≤ x := by
  cases l with
  | nil => exact absurd rfl h
  | cons i l =>
    obtain ⟨h1, h2⟩ := leastOf_le l i
    refine ⟨?_, fun x hx => (List.mem_cons.mp hx).elim (fun e => e ▸ h1) (h2 x)⟩
    rcases leastOf_mem l i with q | q
    · show leastOf i l ∈ _; rw [q]; exact List.mem_cons_self
    · exact List.mem_cons_of_mem _ q
theorem leastL_eq {l : List Int} {m : Int} (h : m ∈ l) (k : ∀ x ∈ l, m ≤ x) : leastL l = m := by
  obtain ⟨h1, h2⟩ := leastL_spec (l := l) (fun e => by rw [e] at h; cases h)
  have := h2 m h
  have := k _ h1
  omega
theorem minD_ints {l : List Int} (h : l ≠ []) (s : Sto) : minD [.lst (l.map Dx.int)] s = .ok (.int (leastL l)) s := by
  rw [minD_lst, ints_map id Dx.int (fun _ => rfl), List.map_id]
  cases l with
  | nil => exact absurd rfl h
  | cons i l => rfl
theorem range_filter {α : Type} (p : α → Bool) (f : α → Dx) (d : α) (xs : List α) : ((List.range xs.length).filter fun k => p (xs.getD k d)).map (fun k => f (xs.getD k d)) = (xs.filter p).map f := by
  have e : xs = (List.range xs.length).map fun k => xs.getD k d := by
    apply List.ext_getElem
    · simp
    · intro i h1 h2
      simp [List.getElem?_eq_getElem h1]
  have e2 : (xs.filter p).map f = ((((List.range xs.length).map fun k => xs.getD k d)).filter p).map f := by rw [← e]
  rw [e2, List.filter_map, List.map_map]
  rfl
end Pm
namespace Pm
theorem eqD_nil {xs : List Dx} {s : Sto} (h : xs.all (shp 39) = true) : eqD (.lst xs) (.lst []) s = .ok (.bl xs.isEmpty) s := by
  unfold eqD
  rw [show res s (.lst xs) = .lst xs from rfl, show res s (.lst []) = .lst [] from rfl, show shp 40 (.lst xs) = true from h, show shp 40 (.lst []) = true from rfl]
  cases xs <;> simp [eqv, eqvL]
theorem ints_of {p : Int → Prop} : ∀ {ys : List Dx}, (∀ y ∈ ys, ∃ i : Int, y = .int i ∧ p i) → ∃ is : List Int, ys = is.map Dx.int ∧ ∀ i ∈ is, p i
  | [], _ => ⟨[], rfl, fun _ h => by cases h⟩
  | y :: ys, h => by
    obtain ⟨i, rfl, hp⟩ := h y List.mem_cons_self
    obtain ⟨is, rfl, k⟩ := ints_of fun q hq => h q (List.mem_cons_of_mem _ hq)
    exact ⟨i :: is, rfl, fun j hj => (List.mem_cons.mp hj).elim (fun e => e ▸ hp) (k j)⟩
end Pm
namespace Pm
/-! ## trees of fits -/
inductive Tr where
  | any | weight (i : Int) | kind (ns : List Tx) | place (ns : List Tx) | not (t : Tr) | both (ts : List Tr) | either (ts : List Tr)
mutual
def Tr.dx : Tr → Dx
  | .any => .tup [.str (tx "any")]
  | .weight i => .tup [.str (tx "weight"), .int i]
  | .kind ns => .tup [.str (tx "kind"), .tup (ns.map Dx.str)]
  | .place ns => .tup [.str (tx "place"), .tup (ns.map Dx.str)]
  | .not t => .tup [.str (tx "not"), t.dx]
  | .both ts => .tup [.str (tx "both"), .tup (dxL ts)]
  | .either ts => .tup [.str (tx "either"), .tup (dxL ts)]
def dxL : List Tr → List Dx
  | [] => []
  | t :: ts => t.dx :: dxL ts
end
theorem dxL_map : ∀ ts : List Tr, dxL ts = ts.map Tr.dx
  | [] => rfl
  | t :: ts => by rw [dxL, dxL_map ts]; rfl
mutual
/-- the fit that it tells of -/
def Tr.fitO : Tr → Dx
  | .any => .obj "Any" []
  | .weight i => .obj "Least" [("weight", .int i)]
  | .kind ns => .obj "Kind" [("names", .lst (ns.map Dx.str))]
  | .place ns => .obj "Place" [("names", .lst (ns.map Dx.str))]
  | .not t => .obj "Not" [("fit", t.fitO)]
  | .both ts => .obj "Both" [("fits", .lst (fitL ts))]
  | .either ts => .obj "Either" [("fits", .lst (fitL ts))]
def fitL : List Tr → List Dx
  | [] => []
  | t :: ts => t.fitO :: fitL ts
end
theorem fitL_map : ∀ ts : List Tr, fitL ts = ts.map Tr.fitO
  | [] => rfl
  | t :: ts => by rw [fitL, fitL_map ts]; rfl
mutual
def Tr.holds (k p : Tx) (w : Int) : Tr → Bool
  | .any => true
  | .weight i => decide (i ≤ w)
  | .kind ns => decide (k ∈ ns)
  | .place ns => decide (p ∈ ns)
  | .not t => !t.holds k p w
  | .both ts => allT k p w ts
  | .either ts => anyT k p w ts
def allT (k p : Tx) (w : Int) : List Tr → Bool
  | [] => true
  | t :: ts => t.holds k p w && allT k p w ts
def anyT (k p : Tx) (w : Int) : List Tr → Bool
  | [] => false
  | t :: ts => t.holds k p w || anyT k p w ts
end
theorem allT_all {k p : Tx} {w : Int} : ∀ ts : List Tr, allT k p w ts = ts.all (Tr.holds k p w)
  | [] => rfl
  | t :: ts => by rw [allT, allT_all ts]; rfl
theorem anyT_any {k p : Tx} {w : Int} : ∀ ts : List Tr, anyT k p w ts = ts.any (Tr.holds k p w)
  | [] => rfl
  | t :: ts => by rw [anyT, anyT_any ts]; rfl
def NmL (ns : List Tx) : Prop := (∀ z ∈ ns, nameB z = true) ∧ ns.Nodup ∧ ns ≠ []
/-- so deep at most, of so many names and weights -/
def Tr.Ok : Nat → Nat → Tr → Prop
  | _, b, .any => 1 ≤ b
  | _, b, .weight i => (0 ≤ i ∧ i < 1000000) ∧ 1 ≤ b
  | _, b, .kind ns => NmL ns ∧ ns.length ≤ b
  | _, b, .place ns => NmL ns ∧ ns.length ≤ b
  | 0, _, .not _ => False
  | 0, _, .both _ => False
  | 0, _, .either _ => False
  | d + 1, b, .not t => Tr.Ok d b t
  | d + 1, b, .both ts => 2 ≤ ts.length ∧ ts.length ≤ 10 ∧ ∃ c, ts.length * c ≤ b ∧ ∀ t ∈ ts, Tr.Ok d c t
  | d + 1, b, .either ts => 2 ≤ ts.length ∧ ts.length ≤ 10 ∧ ∃ c, ts.length * c ≤ b ∧ ∀ t ∈ ts, Tr.Ok d c t
theorem Tr.Ok.more : ∀ {d b : Nat} {t : Tr}, Tr.Ok d b t → ∀ {b' : Nat}, b ≤ b' → Tr.Ok d b' t
  | _, _, .any, h, _, hb => by unfold Tr.Ok at h ⊢; exact Nat.le_trans h hb
  | _, _, .weight i, h, _, hb => by unfold Tr.Ok at h ⊢; exact ⟨h.1, Nat.le_trans h.2 hb⟩
  | _, _, .kind ns, h, _, hb => by unfold Tr.Ok at h ⊢; exact ⟨h.1, Nat.le_trans h.2 hb⟩
  | _, _, .place ns, h, _, hb => by unfold Tr.Ok at h ⊢; exact ⟨h.1, Nat.le_trans h.2 hb⟩
  | 0, _, .not _, h, _, _ => by unfold Tr.Ok at h; exact h.elim
  | 0, _, .both _, h, _, _ => by unfold Tr.Ok at h; exact h.elim
  | 0, _, .either _, h, _, _ => by unfold Tr.Ok at h; exact h.elim
  | d + 1, _, .not t, h, _, hb => by unfold Tr.Ok at h ⊢; exact Tr.Ok.more h hb
  | d + 1, _, .both ts, h, _, hb => by
    unfold Tr.Ok at h ⊢
    obtain ⟨h1, h2, c, h3, h4⟩ := h
    exact ⟨h1, h2, c, Nat.le_trans h3 hb, h4⟩
  | d + 1, _, .either ts, h, _, hb => by
    unfold Tr.Ok at h ⊢
    obtain ⟨h1, h2, c, h3, h4⟩ := h
    exact ⟨h1, h2, c, Nat.le_trans h3 hb, h4⟩
theorem Tr.Ok.deeper : ∀ {d b : Nat} {t : Tr}, Tr.Ok d b t → Tr.Ok (d + 1) b t
  | _, _, .any, h => by unfold Tr.Ok at h ⊢; exact h
  | _, _, .weight i, h => by unfold Tr.Ok at h ⊢; exact h
  | _, _, .kind ns, h => by unfold Tr.Ok at h ⊢; exact h
  | _, _, .place ns, h => by unfold Tr.Ok at h ⊢; exact h
  | 0, _, .not _, h => by unfold Tr.Ok at h; exact h.elim
  | 0, _, .both _, h => by unfold Tr.Ok at h; exact h.elim
  | 0, _, .either _, h => by unfold Tr.Ok at h; exact h.elim
  | d + 1, _, .not t, h => by unfold Tr.Ok at h ⊢; exact Tr.Ok.deeper h
  | d + 1, _, .both ts, h => by
    unfold Tr.Ok at h ⊢
    obtain ⟨h1, h2, c, h3, h4⟩ := h
    exact ⟨h1, h2, c, h3, fun t ht => (h4 t ht).deeper⟩
  | d + 1, _, .either ts, h => by
    unfold Tr.Ok at h ⊢
    obtain ⟨h1, h2, c, h3, h4⟩ := h
    exact ⟨h1, h2, c, h3, fun t ht => (h4 t ht).deeper⟩
theorem Tr.Ok.deep {d b : Nat} {t : Tr} (h : Tr.Ok d b t) : ∀ {d' : Nat}, d ≤ d' → Tr.Ok d' b t := fun {d'} hd => by
  obtain ⟨k, rfl⟩ : ∃ k, d' = d + k := ⟨d' - d, by omega⟩
  clear hd
  induction k with
  | zero => exact h
  | succ k ih => exact ih.deeper
def hapO (k p : Tx) (w : Int) : Dx := .obj "Happening" [("kind", .str k), ("place", .str p), ("weight", .int w)]
def thingD (k p : Tx) (w : Int) : Dx := .tup [.str k, .str p, .int w]
theorem trees_of {p : Tr → Prop} : ∀ {ys : List Dx}, (∀ y ∈ ys, ∃ t : Tr, y = t.dx ∧ p t) → ∃ ts : List Tr, ys = ts.map Tr.dx ∧ ∀ t ∈ ts, p t
  | [], _ => ⟨[], rfl, fun _ h => by cases h⟩
  | y :: ys, h => by
    obtain ⟨r, rfl, hp⟩ := h y List.mem_cons_self
    obtain ⟨rs, rfl, k⟩ := trees_of fun q hq => h q (List.mem_cons_of_mem _ hq)
    exact ⟨r :: rs, rfl, fun j hj => (List.mem_cons.mp hj).elim (fun e => e ▸ hp) (k j)⟩
end Pm
namespace Pm
/-! ## one turn of a while -/
theorem whileL_nx {t : MT} {b : MS} {n : Nat} {e e' : En} {s s' : Sto} (ht : t e s = .ok true s) (hb : b e s = .nx e' s') : whileL t b (n + 1) e s = whileL t b n e' s' := by
  conv => lhs; unfold whileL
  rw [ht]
  simp [hb]
theorem whileL_exc {t : MT} {b : MS} {n : Nat} {e e' : En} {s s' : Sto} {C : String} {fs : Fs} (ht : t e s = .ok true s) (hb : b e s = .exc C fs e' s') : whileL t b (n + 1) e s = .exc C fs e' s' := by
  unfold whileL
  rw [ht]
  simp [hb]
theorem whileL_stop {t : MT} {b : MS} {n : Nat} {e : En} {s : Sto} (ht : t e s = .ok false s) : whileL t b (n + 1) e s = .nx e s := by
  unfold whileL
  rw [ht]
  simp
theorem whileL_bk {t : MT} {b : MS} {n : Nat} {e e' : En} {s s' : Sto} (ht : t e s = .ok true s) (hb : b e s = .bk e' s') : whileL t b (n + 1) e s = .nx e' s' := by
  unfold whileL
  rw [ht]
  simp [hb]
theorem whileL_rt {t : MT} {b : MS} {n : Nat} {e : En} {s s' : Sto} {v : Dx} (ht : t e s = .ok true s) (hb : b e s = .rt v s') : whileL t b (n + 1) e s = .rt v s' := by
  unfold whileL
  rw [ht]
  simp [hb]
theorem asM_app {s : Sto} {d : Dx} {xs : List Dx} (h : asM s d = some xs) (l : Sto) : asM (s ++ l) d = some xs := by
  cases d with
  | lst ys => exact h
  | cell n =>
    simp only [asM] at h ⊢
    cases hs : s[n]? with
    | none => simp [hs] at h
    | some c =>
      have hn : n < s.length := (List.getElem?_eq_some_iff.mp hs).1
      rw [List.getElem?_append_left hn, hs]
      rw [hs] at h
      exact h
  | _ => cases h
theorem ixD_asM {s : Sto} {d x : Dx} {xs : List Dx} {i : Int} (h : asM s d = some xs) (k : pyIx xs i = some x) : ixD d (.int i) s = .ok x s := by
  have q := asQ_asM h
  cases d with
  | lst ys => cases h; simp [k]
  | cell n =>
    show (match asQ s (Dx.cell n) with
      | some xs => (match pyIx xs i with | some d => R.ok d s | none => R.stuck)
      | none => R.stuck) = _
    rw [q]
    simp [k]
  | _ => cases h
end Pm

namespace Mo
open Pm
/-- a comprehension whose items lay things -/
theorem lcL_mapE {α : Type} {g : MG} {tt : MT} {te : ME} {e : En} {c : Option Nat} {all : List Dx} {P : Sto → Prop} {em f : α → Dx} (st : ∀ s, P s → stands c all s) : ∀ xs : List α, (∀ x ∈ xs, ∀ s, P s → ∃ e1 s1, g (em x) e s = some e1 ∧ tt e1 s = .ok true s ∧ te e1 s = .ok (f x) s1 ∧ P s1) →
    ∀ s, P s → ∃ s1, lcL g tt te e c all (xs.map em) s = .ok (xs.map f) s1 ∧ P s1
  | [], _, s, p => ⟨s, by rw [List.map_nil]; unfold lcL; rw [if_pos (st s p)]; rfl, p⟩
  | x :: xs, h, s, p => by
    obtain ⟨e1, s1, h1, h2, h3, p1⟩ := h x List.mem_cons_self s p
    obtain ⟨s2, h4, p2⟩ := lcL_mapE (em := em) (f := f) st xs (fun y hy => h y (List.mem_cons_of_mem _ hy)) s1 p1
    refine ⟨s2, ?_, p2⟩
    rw [List.map_cons]
    unfold lcL
    rw [if_pos (st s p), h1]
    simp [h2, h3, h4]
end Mo
namespace Pm
/-! ## sorted(set(xs)) -/
theorem sortV_strs (zs : List Tx) : sortV (zs.map Dx.str) = some ((sortT zs).map Dx.str) := by
  cases zs with
  | nil => rfl
  | cons z zs => unfold sortV; simp only [List.map_cons, dInts]; rw [← List.map_cons, strs_strs]; rfl
theorem dInts_ints : ∀ (l : List Int), dInts (l.map Dx.int) = some l
  | [] => rfl
  | x :: l => by simp [dInts_ints l]
theorem sortV_ints (l : List Int) : sortV (l.map Dx.int) = some ((sortI l).map Dx.int) := by
  unfold sortV; rw [dInts_ints]
theorem len_insR {α : Type} [DecidableEq α] (lt : α → α → Bool) (x : α) : ∀ l : List α, (insR lt x l).length ≤ l.length + 1
  | [] => by simp [insR]
  | y :: r => by
    unfold insR
    split
    · simp
    · split
      · simp
      · have := len_insR lt x r
        simp; omega
theorem len_sortR {α : Type} [DecidableEq α] (lt : α → α → Bool) : ∀ l : List α, (sortR lt l).length ≤ l.length
  | [] => by simp [sortR]
  | x :: l => by
    have h1 := len_sortR lt l
    have h2 := len_insR lt x (sortR lt l)
    show (insR lt x (sortR lt l)).length ≤ _
    simp; omega
end Pm

namespace Mo
open Pm
theorem fitO_obj (t : Tr) : ∃ C fs, t.fitO = .obj C fs ∧ isSub C "Fit" = true := by
  cases t <;> exact ⟨_, _, rfl, by decide +kernel⟩
end Mo

namespace Mo
open Pm
theorem nx (s0 l : Sto) {z : Cl} (hz : IsSt z) (k : Int) (h : 0 < k ∧ k < 2 ^ 64) : ∃ v z', IsSt z' ∧ 0 ≤ v ∧ v < k ∧ m_law_next [.cell s0.length, .int k] (s0 ++ z :: l) = .ok (.int v) (s0 ++ z' :: l) := by
  obtain ⟨a, b, c, rfl⟩ := hz
  have h2 : k < 18446744073709551616 := h.2
  by_cases ha : 0 < a
  · refine ⟨a % k, .lst [.int (a / k), .int b, .int c], ⟨_, _, _, rfl⟩, Int.emod_nonneg _ (by omega), Int.emod_lt_of_pos _ h.1, ?_⟩
    simp [m_law_next, b_law_next, ha, h.1, h2]
  · have q1 : ∀ x : Int, -18446744073709551616 < x % 2147483647 := by omega
    have q2 : ∀ x : Int, x % 2147483647 < 18446744073709551616 := by omega
    suffices hs : ∃ v, m_law_next [.cell s0.length, .int k] (s0 ++ Cl.lst [.int a, .int b, .int c] :: l) = .ok (.int (v % k)) (s0 ++ Cl.lst [.int a, .int b, .int (c + 1)] :: l) by
      obtain ⟨v, hv⟩ := hs
      exact ⟨v % k, _, ⟨_, _, _, rfl⟩, Int.emod_nonneg _ (by omega), Int.emod_lt_of_pos _ h.1, hv⟩
    simp [m_law_next, b_law_next, ha, h.1, h2, q1, q2]
    exact ⟨_, rfl⟩

end Mo
namespace Mo
open Pm
theorem name_ok (s0 l : Sto) {z : Cl} (hz : IsSt z) : ∃ v z', IsSt z' ∧ nameB v = true ∧ m_law_name [.cell s0.length] (s0 ++ z :: l) = .ok (.str v) (s0 ++ z' :: l) := by
  obtain ⟨v1, z1, hz1, a1, b1, e1⟩ := nx s0 l hz 4 (by decide)
  by_cases c0 : v1 = 0
  · subst c0
    obtain ⟨v2, z2, hz2, a2, b2, e2⟩ := nx s0 l hz1 16 (by decide)
    obtain ⟨d, h1, h2⟩ := pyIx_mem (xs := ["any", "kind", "place", "weight", "not", "by", "now", "hour", "day", "never", "sure", "raise", "zone", "quiet", "a", "to"].map fun z => Dx.str (tx z)) a2 b2
    obtain ⟨y, hy, rfl⟩ := List.mem_map.mp h2
    refine ⟨tx y, z2, hz2, ?_, ?_⟩
    · have hall : ∀ y ∈ ["any", "kind", "place", "weight", "not", "by", "now", "hour", "day", "never", "sure", "raise", "zone", "quiet", "a", "to"], nameB (tx y) = true := by decide +kernel
      exact hall y hy
    · simp only [List.map_cons, List.map_nil] at h1
      simp [m_law_name, b_law_name, e1, e2, h1]
  by_cases c1 : v1 = 1
  · subst c1
    obtain ⟨v2, z2, hz2, a2, b2, e2⟩ := nx s0 l hz1 8 (by decide)
    obtain ⟨w, hw⟩ : ∃ w : Tx, w = (tx "bcdefghi").take (1 + v2).toNat := ⟨_, rfl⟩
    have hL : (tx "bcdefghi").length = 8 := by decide
    have hwl : w.length = (1 + v2).toNat := by rw [hw, List.length_take, hL]; omega
    obtain ⟨v3, z3, hz3, a3, b3, e3⟩ := nx s0 l hz2 w.length (by omega)
    obtain ⟨v4, z4, hz4, a4, b4, e4⟩ := nx s0 l hz3 3 (by decide)
    obtain ⟨c, h1, h2⟩ := pyIx_mem (xs := tx "axz") a4 (by rw [show (tx "axz").length = 3 from by decide]; exact b4)
    have hc : cut (tx "bcdefghi") none (some (1 + v2)) = w := by rw [cut_to _ _ (by omega), hw]
    have hlm : w.length ≤ 1000000 := by omega
    refine ⟨w.take v3.toNat ++ [c] ++ w.drop (v3 + 1).toNat, z4, hz4, ?_, ?_⟩
    · have hb : ∀ c ∈ tx "bcdefghi", c ∈ letters := by decide +kernel
      have ha : ∀ c ∈ tx "axz", c ∈ letters := by decide +kernel
      have hwm : ∀ c ∈ w, c ∈ letters := fun c hc => hb c (by rw [hw] at hc; exact List.mem_of_mem_take hc)
      refine nameB_of (by simp) (by simp; omega) fun q hq => ?_
      simp only [List.mem_append, List.mem_singleton] at hq
      rcases hq with (hq | rfl) | hq
      · exact hwm q (List.mem_of_mem_take hq)
      · exact ha _ h2
      · exact hwm q (List.mem_of_mem_drop hq)
    · simp [m_law_name, b_law_name, e1, e2, e3, e4, h1, hc, hL, hlm, cut_to w v3 a3, cut_from w (v3 + 1) (by omega), show (tx "axz").length = 3 from by decide, show min v3.toNat w.length + 1 ≤ 1000000 from by omega, show min v3.toNat w.length + 1 + (w.length - (v3 + 1).toNat) ≤ 1000000 from by omega]
  obtain ⟨v2, z2, hz2, a2, b2, e2⟩ := nx s0 l hz1 8 (by decide)
  have hA : (tx "abcdefghijklmnopqrstuvwxyz").length = 26 := by decide
  obtain ⟨ys, s3, h3, ⟨z3, hz3, rfl⟩, h4, h5⟩ := lcL_inv (g := hNm 6) (tt := uYes) (te := eOp ixD (eVar 1) (eCall m_law_next (aCons (eVar 0) (aCons (eC (.int 26)) aNil)))) (e := ⟨[some (.cell s0.length), some (.str (tx "abcdefghijklmnopqrstuvwxyz")), some (.int v1), none, none, none, none], [], none⟩)
    (c := none) (all := rng 0 (1 + v2).toNat) (P := fun s => ∃ z, IsSt z ∧ s = s0 ++ z :: l) (R := fun y => ∃ c, c ∈ letters ∧ y = .str [c]) (fun _ _ => trivial) (rng 0 (1 + v2).toNat) (fun x hx s ⟨z, hz, hs⟩ => by
      subst hs
      obtain ⟨v, z', hz', a, b, e⟩ := nx s0 l hz 26 (by decide)
      obtain ⟨c, h1, h2⟩ := pyIx_mem (xs := tx "abcdefghijklmnopqrstuvwxyz") a (by rw [hA]; exact b)
      exact ⟨_, .str [c], s0 ++ z' :: l, rfl, rfl, by simp [e, h1, hA], ⟨z', hz', rfl⟩, c, h2, rfl⟩) (s0 ++ z2 :: l) ⟨z2, hz2, rfl⟩
  obtain ⟨zs, h6, h7, h8⟩ := one_strs h5
  obtain ⟨h9, h10, h11⟩ := one_join h8
  have hn : zs.length = (1 + v2).toNat := by rw [h7, h4, rng_len]
  refine ⟨joinT [] zs, z3, hz3, nameB_of (fun e => by rw [e] at h9; simp at h9; omega) (by omega) h10, ?_⟩
  have e0 : tx "" = [] := rfl
  simp [m_law_name, b_law_name, e1, e2, c0, c1, h3, rng_len, h6, h11, e0, show -1152921504606846976 ≤ 1 + v2 from by omega, show 1 + v2 ≤ 1152921504606846976 from by omega, show (1 + v2).toNat ≤ 1000000 from by omega, show zs.length ≤ 1000000 from by omega]

end Mo
namespace Mo
open Pm
def LeafI (s0 l : Sto) (more v : Int) (i : Nat) (e : En) (s : Sto) : Prop := ∃ (z : Cl) (ns : List Tx) (x4 x5 : Option Dx), IsSt z ∧ NmL ns ∧ ns.length ≤ 1 + i ∧ e = ⟨[some (.cell s0.length), some (.int more), some (.int v), some (.cell (s0.length + (l.length + 1))), x4, x5], [], none⟩ ∧ s = s0 ++ z :: (l ++ [.lst (ns.map Dx.str)])
def LeafP (s0 l : Sto) (more : Int) (r : R Dx) : Prop := ∃ (t : Tr) (z' : Cl) (l' : Sto), IsSt z' ∧ t.Ok 0 (1 + more).toNat ∧ r = .ok t.dx (s0 ++ z' :: (l ++ l'))
theorem leaf_ok (s0 l : Sto) {z : Cl} (hz : IsSt z) (more : Int) (hm : 0 ≤ more ∧ more ≤ 5) : LeafP s0 l more (m_law_leaf [.cell s0.length, .int more] (s0 ++ z :: l)) := by
  obtain ⟨v1, z1, i1, a1, b1, e1⟩ := nx s0 l hz 7 (by decide)
  by_cases c0 : v1 = 0
  · subst c0
    exact ⟨.any, z1, [], i1, by unfold Tr.Ok; omega, by simp [m_law_leaf, b_law_leaf, e1, Tr.dx]⟩
  by_cases c1 : v1 < 3
  · obtain ⟨v2, z2, i2, a2, b2, e2⟩ := nx s0 l i1 9 (by decide)
    obtain ⟨v3, z3, i3, a3, b3, e3⟩ := nx s0 l i2 1000000 (by decide)
    obtain ⟨v4, z4, i4, a4, b4, e4⟩ := nx s0 l i3 3 (by decide)
    obtain ⟨d, g, hd⟩ := pick (xs := [Dx.int v2, .int v3]) (v := v4 / 2) (P := fun d => ∃ i : Int, d = .int i ∧ (0 ≤ i ∧ i < 1000000)) (by omega) (by simp; omega) (by
      simp only [List.forall_mem_cons, List.not_mem_nil, false_implies, implies_true, and_true]
      exact ⟨⟨_, rfl, a2, by omega⟩, ⟨_, rfl, a3, by omega⟩⟩)
    obtain ⟨w, rfl, hw⟩ := hd
    exact ⟨.weight w, z4, [], i4, by unfold Tr.Ok; exact ⟨hw, by omega⟩, by simp [m_law_leaf, b_law_leaf, e1, c0, c1, e2, e3, e4, g, Tr.dx]⟩
  · refine mk_R rfl ?_
    obtain ⟨nm, z2, i2, hnm, e2⟩ := name_ok s0 l i1
    obtain ⟨v3, z3, i3, a3, b3, e3⟩ := nx s0 (l ++ [.lst [.str nm]]) i2 (1 + more) (by omega)
    simp [b_law_leaf, e1, c0, c1, e2, e3, show -1152921504606846976 ≤ v3 from by omega, show v3 ≤ 1152921504606846976 from by omega]
    refine forL_okX (c := none) (P := LeafI s0 l more v1) (Z := fun r => LeafP s0 l more (toR (S.sq r _))) (fun _ _ _ _ => trivial) _ ?_ ?_ _ _ ⟨z3, [nm], none, none, i3, ⟨by simpa using hnm, by simp, by simp⟩, by simp, rfl, by simp⟩
    · rintro e s ⟨z, ns, x4, x5, iz, hn, hl, rfl, rfl⟩
      rw [rng_len] at hl
      have hb : ns.length ≤ (1 + more).toNat := by omega
      rcases (show v1 % 2 = 0 ∨ v1 % 2 = 1 by omega) with h | h
      · exact ⟨.kind ns, z, _, iz, by unfold Tr.Ok; exact ⟨hn, hb⟩, by simp [toR, h, Tr.dx]; rfl⟩
      · exact ⟨.place ns, z, _, iz, by unfold Tr.Ok; exact ⟨hn, hb⟩, by simp [toR, h, Tr.dx]; rfl⟩
    · rintro i x hx e s ⟨z, ns, x4, x5, iz, hn, hl, rfl, rfl⟩
      obtain ⟨hi, rfl⟩ := rng_at hx
      refine ⟨_, rfl, ?_⟩
      obtain ⟨nm2, y1, j1, hnm2, f1⟩ := name_ok s0 (l ++ [.lst (ns.map Dx.str)]) iz
      have q := inD_names (s := s0 ++ y1 :: (l ++ [.lst (ns.map Dx.str)])) (n := s0.length + (l.length + 1)) (v := nm2) (zs := ns) true (by simp)
      by_cases hmem : nm2 ∈ ns
      · simp only [hmem, decide_true, Bool.bne_true] at q
        simp [-inD_cell, l_law_leaf_1, f1, q]
        exact ⟨y1, ns, _, _, j1, hn, by omega, rfl, rfl⟩
      · simp only [hmem, decide_false] at q
        simp [-inD_cell, l_law_leaf_1, f1, q, show ns.length < 1000000 from by omega]
        refine ⟨y1, ns ++ [nm2], _, _, j1, ⟨fun z hz => ?_, ?_, by simp⟩, by simp; omega, rfl, by simp⟩
        · rcases List.mem_append.mp hz with h | h
          · exact hn.1 z h
          · rw [List.mem_singleton.mp h]; exact hnm2
        · rw [List.nodup_append]
          exact ⟨hn.2.1, by simp, fun a ha b hb => by rw [List.mem_singleton.mp hb]; exact fun e => hmem (e ▸ ha)⟩

end Mo
namespace Mo
open Pm
def TreeP (s0 l : Sto) (d b : Nat) (r : R Dx) : Prop := ∃ (t : Tr) (z' : Cl) (l' : Sto), IsSt z' ∧ t.Ok d b ∧ r = .ok t.dx (s0 ++ z' :: (l ++ l'))
/-- the deepest a tree's names and weights may be many -/
def most3 (more : Int) : Nat → Nat
  | 0 => (1 + more).toNat
  | d + 1 => 3 * most3 more d
theorem most3_s (more : Int) (d : Nat) : most3 more (d + 1) = 3 * most3 more d := rfl
theorem most3_pos {more : Int} (hm : 0 ≤ more) : ∀ d, (1 + more).toNat ≤ most3 more d
  | 0 => Nat.le_refl _
  | d + 1 => by have := most3_pos hm d; unfold most3; omega
theorem tree_ok (more : Int) (hm : 0 ≤ more ∧ more ≤ 5) : ∀ (d n : Nat), d < n → d ≤ 10 → ∀ (s0 l : Sto) {z : Cl}, IsSt z → TreeP s0 l d (most3 more d) (q_law_tree n [.cell s0.length, .int d, .int more] (s0 ++ z :: l))
  | d, 0, h, _ => by omega
  | d, n + 1, h, h10 => fun s0 l z hz => by
    rw [q_law_tree_s]
    obtain ⟨v1, z1, i1, a1, b1, e1⟩ := nx s0 l hz 8 (by decide)
    have mul0 : ∀ S : Sto, mulD (.int more) (.int 0) S = .ok (.int 0) S := fun S => by rw [mulD_ii, if_pos (.inl (by omega)), Int.mul_zero]
    have mul1 : ∀ S : Sto, mulD (.int more) (.int 1) S = .ok (.int more) S := fun S => by rw [mulD_ii, if_pos (.inl (by omega)), Int.mul_one]
    by_cases c : d = 0 ∨ v1 < 3
    · have hp := most3_pos hm.1 d
      by_cases c0 : d = 0
      · subst c0
        obtain ⟨t, z2, l2, i2, ht, e2⟩ := leaf_ok s0 l i1 0 (by omega)
        exact ⟨t, z2, l2, i2, ht.more (by omega), by simp [-mulD_ii, b_law_tree, e1, mul0, e2]⟩
      · obtain ⟨t, z2, l2, i2, ht, e2⟩ := leaf_ok s0 l i1 more (by omega)
        have c : v1 < 3 := c.elim (fun h => absurd h c0) id
        exact ⟨t, z2, l2, i2, (ht.more (by omega)).deep (Nat.zero_le d), by simp [-mulD_ii, b_law_tree, e1, c, c0, Nat.pos_of_ne_zero c0, mul1, e2]⟩
    · obtain ⟨c0, c1⟩ := not_or.mp c
      obtain ⟨m, rfl⟩ : ∃ m, d = m + 1 := ⟨d - 1, by omega⟩
      have ih := tree_ok more hm m n (by omega) (by omega)
      have hsub : ((m + 1 : Nat) : Int) - 1 = m := by omega
      have hne : ¬ (((m + 1 : Nat) : Int) = 0) := by omega
      by_cases c3 : v1 = 3
      · obtain ⟨t, z2, l2, i2, ht, e2⟩ := ih s0 l i1
        refine ⟨.not t, z2, l2, i2, by unfold Tr.Ok; exact ht.more (by have := most3_s more m; omega), ?_⟩
        simp [b_law_tree, e1, c3, e2, Tr.dx, show ¬ ((m : Int) + 1 = 0) from by omega, show (m : Int) + 1 - 1 = m from by omega]
      · obtain ⟨k, hk⟩ : ∃ k : Int, k = 2 + (if (decide (2 < (m : Int) + 1) && decide (5 < v1)) = true then 1 else 0) := ⟨_, rfl⟩
        have hk2 : 2 ≤ k ∧ k ≤ 3 := by rw [hk]; split <;> omega
        obtain ⟨ys, S4, l1, ⟨z4, l4, i4, rfl⟩, l2, l3⟩ := lcL_inv (g := hNm 5) (tt := uYes) (te := e_law_tree_1 (q_law_tree n)) (e := ⟨[some (.cell s0.length), some (.int ((m : Int) + 1)), some (.int more), some (.int v1), none, none], [], none⟩)
          (c := none) (all := rng 0 k.toNat) (P := fun S => ∃ z l', IsSt z ∧ S = s0 ++ z :: (l ++ l')) (R := fun y => ∃ t : Tr, y = t.dx ∧ t.Ok m (most3 more m)) (fun _ _ => trivial) (rng 0 k.toNat) (fun x hx S ⟨z, l', hz, hs⟩ => by
            subst hs
            obtain ⟨t, z2, l2, i2, ht, e2⟩ := ih s0 (l ++ l') hz
            exact ⟨_, t.dx, s0 ++ z2 :: (l ++ l' ++ l2), rfl, rfl, by simp [e_law_tree_1, show (m : Int) + 1 - 1 = m from by omega, e2], ⟨z2, l' ++ l2, i2, by simp⟩, t, rfl, ht⟩) (s0 ++ z1 :: l) ⟨z1, [], i1, by simp⟩
        obtain ⟨ts, rfl, hts⟩ := trees_of l3
        have htl : ts.length = k.toNat := by simpa [rng_len] using l2
        have hb : ts.length * most3 more m ≤ most3 more (m + 1) := by
          rw [most3_s]
          exact Nat.mul_le_mul_right _ (by omega)
        rcases (show v1 % 2 = 0 ∨ v1 % 2 = 1 by omega) with h | h
        · refine ⟨.both ts, z4, l4, i4, by unfold Tr.Ok; exact ⟨by omega, by omega, _, hb, hts⟩, ?_⟩
          by_cases q1 : 2 < (m : Int) + 1 <;> by_cases q2 : 5 < v1 <;> simp [q1, q2] at hk <;> subst hk <;> simp only [show Int.toNat 3 = 3 from rfl, show Int.toNat 2 = 2 from rfl] at l1 htl <;>
            simp [b_law_tree, e1, c1, c3, show ¬ ((m : Int) + 1 = 0) from by omega, q1, q2, rng_len, l1, h, Tr.dx, dxL_map, htl]
        · refine ⟨.either ts, z4, l4, i4, by unfold Tr.Ok; exact ⟨by omega, by omega, _, hb, hts⟩, ?_⟩
          by_cases q1 : 2 < (m : Int) + 1 <;> by_cases q2 : 5 < v1 <;> simp [q1, q2] at hk <;> subst hk <;> simp only [show Int.toNat 3 = 3 from rfl, show Int.toNat 2 = 2 from rfl] at l1 htl <;>
            simp [b_law_tree, e1, c1, c3, show ¬ ((m : Int) + 1 = 0) from by omega, q1, q2, rng_len, l1, h, Tr.dx, dxL_map, htl]

end Mo
namespace Mo
open Pm
theorem begin_ok (s : Sto) (c : Int) : ∃ z, IsSt z ∧ m_law_begin [.int c] s = .ok (.cell s.length) (s ++ [z]) := by
  have q1 : -18446744073709551616 < 1 - c % 2 := by omega
  have q2 : 1 - c % 2 < 18446744073709551616 := by omega
  refine ⟨.lst [.int (c / 2 * (1 - c % 2)), .int (c % 2147483647), .int 0], ⟨_, _, _, rfl⟩, ?_⟩
  simp [m_law_begin, b_law_begin, q1, q2]

end Mo
namespace Mo
open Pm
theorem inD_l (neg : Bool) (v : Tx) (ns : List Tx) (s : Sto) : inD neg (.str v) (.lst (ns.map Dx.str)) s = .ok (.bl (neg != decide (v ∈ ns))) s := by
  unfold inD
  simp only [asQ_lst, flat, flat_strs, any_strs, Bool.and_self, if_true]
def BesP (zs : List Tx) (s : Sto) (r : R Dx) : Prop := ∃ x, r = .ok (.lst ((zs ++ [x]).map Dx.str)) s
theorem law_beside_ok (zs : List Tx) (s : Sto) (h : zs.length ≤ 10000) : BesP zs s (m_law_beside [.lst (zs.map Dx.str)] s) := by
  refine mk_R rfl ?_
  obtain ⟨al, hal⟩ : ∃ al : Tx, al = tx "abcdefghijklmnopqrstuvwxyz" := ⟨_, rfl⟩
  simp only [b_law_beside, ← hal]
  simp [wD]
  refine forL_ok (c := none) (P := fun e S => S = s ∧ ∃ x1, e = ⟨[some (.lst (zs.map Dx.str)), x1], [], none⟩) (Z := fun r => BesP zs s (toR (S.sq r _))) (fun _ _ _ => trivial) ?_ _ ?_ _ _ ⟨rfl, none, rfl⟩
  · rintro e S ⟨rfl, x1, rfl⟩
    exact ⟨tx "zzzzzzzz", by simp [toR, show zs.length + 1 ≤ 1000000 from by omega]⟩
  · rintro x hx e S ⟨rfl, x1, rfl⟩
    obtain ⟨c, _, rfl⟩ := List.mem_map.mp hx
    refine ⟨_, rfl, ?_⟩
    have q := inD_l true [c] zs S
    by_cases hm : [c] ∈ zs
    · simp only [hm, decide_true] at q
      simp [-inD_lst, l_law_beside_1, q]
    · simp only [hm, decide_false] at q
      simp [-inD_lst, l_law_beside_1, q, show zs.length + 1 ≤ 1000000 from by omega]
      exact ⟨[c], by simp [toR]⟩

end Mo
namespace Mo
open Pm
mutual
/-- the names of the kinds, of the places, the weights of a tree -/
def gk : Tr → List Tx
  | .kind ns => ns
  | .not t => gk t
  | .both ts => gkL ts
  | .either ts => gkL ts
  | _ => []
def gkL : List Tr → List Tx
  | [] => []
  | t :: ts => gk t ++ gkL ts
end
mutual
def gp : Tr → List Tx
  | .place ns => ns
  | .not t => gp t
  | .both ts => gpL ts
  | .either ts => gpL ts
  | _ => []
def gpL : List Tr → List Tx
  | [] => []
  | t :: ts => gp t ++ gpL ts
end
mutual
def gw : Tr → List Int
  | .weight i => [i]
  | .not t => gw t
  | .both ts => gwL ts
  | .either ts => gwL ts
  | _ => []
def gwL : List Tr → List Int
  | [] => []
  | t :: ts => gw t ++ gwL ts
end
def GI {α : Type} (em : α → Dx) (g : List Tr → List α) (a0 : Dx) (word : String) (all : List Tr) (i : Nat) (e : En) (s s1 : Sto) : Prop := s1 = s ∧ ∃ x3, e = ⟨[some a0, some (.str (tx word)), some (.lst ((g (all.take i)).map em)), x3], [], none⟩
theorem gL_loop {α : Type} {em : α → Dx} {g : Tr → List α} {gL : List Tr → List α} (h0 : gL [] = []) (h1 : ∀ t ts, gL (t :: ts) = g t ++ gL ts) {word : String} {r : MF} {a0 : Dx} {s : Sto} {ts : List Tr} {b : Nat} (hb : b ≤ 1000) {c : Nat} (hc : ts.length * c ≤ b) (hg : ∀ t ∈ ts, (g t).length ≤ c ∧ r [t.dx, .str (tx word)] s = .ok (.lst ((g t).map em)) s) (x3 : Option Dx) :
    (gL ts).length ≤ b ∧ ∃ e, forL (hNm 3) (l_law_gathered_1 r) none (ts.map Tr.dx) (ts.map Tr.dx) ⟨[some a0, some (.str (tx word)), some (.lst []), x3], [], none⟩ s = .nx e s ∧ ∃ x3, e = ⟨[some a0, some (.str (tx word)), some (.lst ((gL ts).map em)), x3], [], none⟩ := by
  have ga : ∀ (us vs : List Tr), gL (us ++ vs) = gL us ++ gL vs := fun us vs => by
    induction us with
    | nil => rw [h0]; rfl
    | cons u us ih => rw [List.cons_append, h1, h1, ih, List.append_assoc]
  have gl : ∀ us : List Tr, (∀ u ∈ us, u ∈ ts) → (gL us).length ≤ us.length * c := fun us => by
    induction us with
    | nil => intro _; rw [h0]; simp
    | cons u us ih =>
      intro hm
      rw [h1, List.length_append, List.length_cons, Nat.succ_mul]
      have := (hg u (hm u List.mem_cons_self)).1
      have := ih fun v hv => hm v (List.mem_cons_of_mem _ hv)
      omega
  have hlen : (gL ts).length ≤ b := Nat.le_trans (gl ts fun _ h => h) hc
  refine ⟨hlen, ?_⟩
  refine forL_okX (c := none) (P := fun i e s1 => GI em gL a0 word ts i e s s1) (Z := fun r => ∃ e, r = .nx e s ∧ ∃ x3, e = ⟨[some a0, some (.str (tx word)), some (.lst ((gL ts).map em)), x3], [], none⟩) (fun _ _ _ _ => trivial) _ ?_ ?_ _ _ ⟨rfl, x3, by rw [List.take_zero, h0]; rfl⟩
  · rintro e s1 ⟨rfl, x3, rfl⟩
    refine ⟨_, rfl, x3, ?_⟩
    rw [List.length_map, List.take_length]
  · rintro i x hx e s1 ⟨rfl, x3, rfl⟩
    rw [List.getElem?_map, Option.map_eq_some_iff] at hx
    obtain ⟨t, ht, rfl⟩ := hx
    refine ⟨_, rfl, ?_⟩
    have hi : i < ts.length := (List.getElem?_eq_some_iff.mp ht).1
    have ht2 : t ∈ ts := List.mem_of_getElem? ht
    have e1 : ts.take (i + 1) = ts.take i ++ [t] := by rw [List.take_add_one, ht]; rfl
    have e2 : gL (ts.take (i + 1)) = gL (ts.take i) ++ g t := by rw [e1, ga, h1, h0, List.append_nil]
    have e3 : (gL (ts.take (i + 1))).length ≤ 1000 := by
      have := gl (ts.take (i + 1)) fun u hu => List.mem_of_mem_take hu
      have h4 : (ts.take (i + 1)).length * c ≤ ts.length * c := Nat.mul_le_mul_right _ (by simp; omega)
      omega
    rw [e2, List.length_append] at e3
    simp [l_law_gathered_1, (hg t ht2).2, show (gL (ts.take i)).length + (g t).length ≤ 1000000 from by omega]
    exact ⟨rfl, _, by rw [e2, List.map_append]⟩
theorem gk_ok : ∀ (d n b : Nat) (t : Tr) (s : Sto), d < n → b ≤ 1000 → t.Ok d b → (gk t).length ≤ b ∧ q_law_gathered n [t.dx, .str (tx "kind")] s = .ok (.lst ((gk t).map Dx.str)) s
  | d, 0, _, _, _, h, _, _ => by omega
  | d, n + 1, b, t, s, h, hb, ht => by
    rw [q_law_gathered_s]
    cases t with
    | any => exact ⟨by simp [gk], by simp [b_law_gathered, Tr.dx, gk, tx_inj]⟩
    | weight i => exact ⟨by simp [gk], by simp [b_law_gathered, Tr.dx, gk, tx_inj]⟩
    | kind ns => unfold Tr.Ok at ht; exact ⟨ht.2, by simp [b_law_gathered, Tr.dx, gk, tx_inj]⟩
    | place ns => exact ⟨by simp [gk], by simp [b_law_gathered, Tr.dx, gk, tx_inj]⟩
    | not t =>
      cases d with
      | zero => unfold Tr.Ok at ht; exact ht.elim
      | succ d =>
        unfold Tr.Ok at ht
        have ih := gk_ok d n b t s (by omega) hb ht
        exact ⟨by simpa [gk] using ih.1, by simp [b_law_gathered, Tr.dx, gk, tx_inj, ih.2]⟩
    | both ts =>
      cases d with
      | zero => unfold Tr.Ok at ht; exact ht.elim
      | succ d =>
        unfold Tr.Ok at ht
        obtain ⟨h1, h2, c, h3, h4⟩ := ht
        have hc : c ≤ 1000 := by have := Nat.mul_le_mul_right c (show 1 ≤ ts.length by omega); omega
        obtain ⟨l1, e, l2, x3, rfl⟩ := gL_loop (em := Dx.str) (g := gk) (gL := gkL) rfl (fun _ _ => rfl) (word := "kind") (r := q_law_gathered n) (a0 := .tup [.str (tx "both"), .tup (ts.map Tr.dx)]) (s := s) hb h3 (fun t ht => gk_ok d n c t s (by omega) hc (h4 t ht)) none
        exact ⟨l1, by simp [b_law_gathered, Tr.dx, gk, tx_inj, dxL_map, l2]⟩
    | either ts =>
      cases d with
      | zero => unfold Tr.Ok at ht; exact ht.elim
      | succ d =>
        unfold Tr.Ok at ht
        obtain ⟨h1, h2, c, h3, h4⟩ := ht
        have hc : c ≤ 1000 := by have := Nat.mul_le_mul_right c (show 1 ≤ ts.length by omega); omega
        obtain ⟨l1, e, l2, x3, rfl⟩ := gL_loop (em := Dx.str) (g := gk) (gL := gkL) rfl (fun _ _ => rfl) (word := "kind") (r := q_law_gathered n) (a0 := .tup [.str (tx "either"), .tup (ts.map Tr.dx)]) (s := s) hb h3 (fun t ht => gk_ok d n c t s (by omega) hc (h4 t ht)) none
        exact ⟨l1, by simp [b_law_gathered, Tr.dx, gk, tx_inj, dxL_map, l2]⟩
theorem gp_ok : ∀ (d n b : Nat) (t : Tr) (s : Sto), d < n → b ≤ 1000 → t.Ok d b → (gp t).length ≤ b ∧ q_law_gathered n [t.dx, .str (tx "place")] s = .ok (.lst ((gp t).map Dx.str)) s
  | d, 0, _, _, _, h, _, _ => by omega
  | d, n + 1, b, t, s, h, hb, ht => by
    rw [q_law_gathered_s]
    cases t with
    | any => exact ⟨by simp [gp], by simp [b_law_gathered, Tr.dx, gp, tx_inj]⟩
    | weight i => exact ⟨by simp [gp], by simp [b_law_gathered, Tr.dx, gp, tx_inj]⟩
    | place ns => unfold Tr.Ok at ht; exact ⟨ht.2, by simp [b_law_gathered, Tr.dx, gp, tx_inj]⟩
    | kind ns => exact ⟨by simp [gp], by simp [b_law_gathered, Tr.dx, gp, tx_inj]⟩
    | not t =>
      cases d with
      | zero => unfold Tr.Ok at ht; exact ht.elim
      | succ d =>
        unfold Tr.Ok at ht
        have ih := gp_ok d n b t s (by omega) hb ht
        exact ⟨by simpa [gp] using ih.1, by simp [b_law_gathered, Tr.dx, gp, tx_inj, ih.2]⟩
    | both ts =>
      cases d with
      | zero => unfold Tr.Ok at ht; exact ht.elim
      | succ d =>
        unfold Tr.Ok at ht
        obtain ⟨h1, h2, c, h3, h4⟩ := ht
        have hc : c ≤ 1000 := by have := Nat.mul_le_mul_right c (show 1 ≤ ts.length by omega); omega
        obtain ⟨l1, e, l2, x3, rfl⟩ := gL_loop (em := Dx.str) (g := gp) (gL := gpL) rfl (fun _ _ => rfl) (word := "place") (r := q_law_gathered n) (a0 := .tup [.str (tx "both"), .tup (ts.map Tr.dx)]) (s := s) hb h3 (fun t ht => gp_ok d n c t s (by omega) hc (h4 t ht)) none
        exact ⟨l1, by simp [b_law_gathered, Tr.dx, gp, tx_inj, dxL_map, l2]⟩
    | either ts =>
      cases d with
      | zero => unfold Tr.Ok at ht; exact ht.elim
      | succ d =>
        unfold Tr.Ok at ht
        obtain ⟨h1, h2, c, h3, h4⟩ := ht
        have hc : c ≤ 1000 := by have := Nat.mul_le_mul_right c (show 1 ≤ ts.length by omega); omega
        obtain ⟨l1, e, l2, x3, rfl⟩ := gL_loop (em := Dx.str) (g := gp) (gL := gpL) rfl (fun _ _ => rfl) (word := "place") (r := q_law_gathered n) (a0 := .tup [.str (tx "either"), .tup (ts.map Tr.dx)]) (s := s) hb h3 (fun t ht => gp_ok d n c t s (by omega) hc (h4 t ht)) none
        exact ⟨l1, by simp [b_law_gathered, Tr.dx, gp, tx_inj, dxL_map, l2]⟩
theorem gw_ok : ∀ (d n b : Nat) (t : Tr) (s : Sto), d < n → b ≤ 1000 → t.Ok d b → (gw t).length ≤ b ∧ q_law_gathered n [t.dx, .str (tx "weight")] s = .ok (.lst ((gw t).map Dx.int)) s
  | d, 0, _, _, _, h, _, _ => by omega
  | d, n + 1, b, t, s, h, hb, ht => by
    rw [q_law_gathered_s]
    cases t with
    | any => exact ⟨by simp [gw], by simp [b_law_gathered, Tr.dx, gw, tx_inj]⟩
    | weight i => unfold Tr.Ok at ht; exact ⟨by simpa [gw] using ht.2, by simp [b_law_gathered, Tr.dx, gw, tx_inj]⟩
    | kind ns => exact ⟨by simp [gw], by simp [b_law_gathered, Tr.dx, gw, tx_inj]⟩
    | place ns => exact ⟨by simp [gw], by simp [b_law_gathered, Tr.dx, gw, tx_inj]⟩
    | not t =>
      cases d with
      | zero => unfold Tr.Ok at ht; exact ht.elim
      | succ d =>
        unfold Tr.Ok at ht
        have ih := gw_ok d n b t s (by omega) hb ht
        exact ⟨by simpa [gw] using ih.1, by simp [b_law_gathered, Tr.dx, gw, tx_inj, ih.2]⟩
    | both ts =>
      cases d with
      | zero => unfold Tr.Ok at ht; exact ht.elim
      | succ d =>
        unfold Tr.Ok at ht
        obtain ⟨h1, h2, c, h3, h4⟩ := ht
        have hc : c ≤ 1000 := by have := Nat.mul_le_mul_right c (show 1 ≤ ts.length by omega); omega
        obtain ⟨l1, e, l2, x3, rfl⟩ := gL_loop (em := Dx.int) (g := gw) (gL := gwL) rfl (fun _ _ => rfl) (word := "weight") (r := q_law_gathered n) (a0 := .tup [.str (tx "both"), .tup (ts.map Tr.dx)]) (s := s) hb h3 (fun t ht => gw_ok d n c t s (by omega) hc (h4 t ht)) none
        exact ⟨l1, by simp [b_law_gathered, Tr.dx, gw, tx_inj, dxL_map, l2]⟩
    | either ts =>
      cases d with
      | zero => unfold Tr.Ok at ht; exact ht.elim
      | succ d =>
        unfold Tr.Ok at ht
        obtain ⟨h1, h2, c, h3, h4⟩ := ht
        have hc : c ≤ 1000 := by have := Nat.mul_le_mul_right c (show 1 ≤ ts.length by omega); omega
        obtain ⟨l1, e, l2, x3, rfl⟩ := gL_loop (em := Dx.int) (g := gw) (gL := gwL) rfl (fun _ _ => rfl) (word := "weight") (r := q_law_gathered n) (a0 := .tup [.str (tx "either"), .tup (ts.map Tr.dx)]) (s := s) hb h3 (fun t ht => gw_ok d n c t s (by omega) hc (h4 t ht)) none
        exact ⟨l1, by simp [b_law_gathered, Tr.dx, gw, tx_inj, dxL_map, l2]⟩
theorem gk_names : ∀ (d b : Nat) (t : Tr), t.Ok d b → ∀ z ∈ gk t, nameB z = true := by
  have L : ∀ (ts : List Tr), (∀ t ∈ ts, ∀ z ∈ gk t, nameB z = true) → ∀ z ∈ gkL ts, nameB z = true := fun ts => by
    induction ts with
    | nil => intro _ z hz; cases hz
    | cons t ts ih =>
      intro h z hz
      rw [gkL] at hz
      rcases List.mem_append.mp hz with q | q
      · exact h t List.mem_cons_self z q
      · exact ih (fun u hu => h u (List.mem_cons_of_mem _ hu)) z q
  intro d
  induction d with
  | zero =>
    intro b t ht z hz
    cases t <;> simp only [gk] at hz <;> first | (cases hz; done) | (unfold Tr.Ok at ht; first | exact ht.1.1 z hz | exact ht.elim)
  | succ d ih =>
    intro b t ht z hz
    cases t with
    | kind ns => unfold Tr.Ok at ht; exact ht.1.1 z hz
    | not t => unfold Tr.Ok at ht; exact ih b t ht z hz
    | both ts => unfold Tr.Ok at ht; obtain ⟨_, _, c, _, h4⟩ := ht; exact L ts (fun t ht => ih c t (h4 t ht)) z hz
    | either ts => unfold Tr.Ok at ht; obtain ⟨_, _, c, _, h4⟩ := ht; exact L ts (fun t ht => ih c t (h4 t ht)) z hz
    | _ => cases hz
theorem gp_names : ∀ (d b : Nat) (t : Tr), t.Ok d b → ∀ z ∈ gp t, nameB z = true := by
  have L : ∀ (ts : List Tr), (∀ t ∈ ts, ∀ z ∈ gp t, nameB z = true) → ∀ z ∈ gpL ts, nameB z = true := fun ts => by
    induction ts with
    | nil => intro _ z hz; cases hz
    | cons t ts ih =>
      intro h z hz
      rw [gpL] at hz
      rcases List.mem_append.mp hz with q | q
      · exact h t List.mem_cons_self z q
      · exact ih (fun u hu => h u (List.mem_cons_of_mem _ hu)) z q
  intro d
  induction d with
  | zero =>
    intro b t ht z hz
    cases t <;> simp only [gp] at hz <;> first | (cases hz; done) | (unfold Tr.Ok at ht; first | exact ht.1.1 z hz | exact ht.elim)
  | succ d ih =>
    intro b t ht z hz
    cases t with
    | place ns => unfold Tr.Ok at ht; exact ht.1.1 z hz
    | not t => unfold Tr.Ok at ht; exact ih b t ht z hz
    | both ts => unfold Tr.Ok at ht; obtain ⟨_, _, c, _, h4⟩ := ht; exact L ts (fun t ht => ih c t (h4 t ht)) z hz
    | either ts => unfold Tr.Ok at ht; obtain ⟨_, _, c, _, h4⟩ := ht; exact L ts (fun t ht => ih c t (h4 t ht)) z hz
    | _ => cases hz

end Mo
namespace Mo
open Pm
def things (KK PP : List Tx) (WW : List Int) : List Dx := KK.flatMap fun k => PP.flatMap fun p => WW.map fun w => thingD k p w
theorem things_mem {KK PP : List Tx} {WW : List Int} {d : Dx} (h : d ∈ things KK PP WW) : ∃ k p w, k ∈ KK ∧ p ∈ PP ∧ w ∈ WW ∧ d = thingD k p w := by
  unfold things at h
  obtain ⟨k, hk, h⟩ := List.mem_flatMap.mp h
  obtain ⟨p, hp, h⟩ := List.mem_flatMap.mp h
  obtain ⟨w, hw, rfl⟩ := List.mem_map.mp h
  exact ⟨k, p, w, hk, hp, hw, rfl⟩
def AllE (T : Dx) (x1 kk pp ww : Dx) (L : List Dx) (x6 x7 x8 : Option Dx) : En := ⟨[some T, some x1, some kk, some pp, some ww, some (.lst L), x6, x7, x8], [], none⟩
theorem all1 {T x1 kk pp : Dx} {S : Sto} {k p : Tx} {WW : List Int} (L : List Dx) (x8 : Option Dx) (h : L.length + WW.length ≤ 1000000) :
    l_law_all_1 (AllE T x1 kk pp (.lst (WW.map Dx.int)) L (some (.str k)) (some (.str p)) x8) S = .nx (AllE T x1 kk pp (.lst (WW.map Dx.int)) (L ++ WW.map fun w => thingD k p w) (some (.str k)) (some (.str p)) x8) S := by
  have e1 := lcL_all (g := hNm 8) (te := e_law_all_1) (e := ⟨[some T, some x1, some kk, some pp, some (.lst (WW.map Dx.int)), some (.lst L), some (.str k), some (.str p), none], [], none⟩) (c := none) (all := WW.map Dx.int) (s := S) (em := Dx.int) (f := fun w => thingD k p w) trivial WW (fun w _ => ⟨_, rfl, by simp [e_law_all_1, thingD]⟩)
  simp [l_law_all_1, AllE, wD, e1, h, show WW.length ≤ 1000000 from by omega]
theorem all2 {T x1 kk pp : Dx} {S : Sto} {k : Tx} {WW : List Int} {all : List Dx} : ∀ (PP : List Tx) (L : List Dx) (x7 x8 : Option Dx), L.length + PP.length * WW.length ≤ 1000000 →
    ∃ x7' x8', forL (hNm 7) l_law_all_1 none all (PP.map Dx.str) (AllE T x1 kk pp (.lst (WW.map Dx.int)) L (some (.str k)) x7 x8) S = .nx (AllE T x1 kk pp (.lst (WW.map Dx.int)) (L ++ PP.flatMap fun p => WW.map fun w => thingD k p w) (some (.str k)) x7' x8') S
  | [], L, x7, x8, _ => ⟨x7, x8, by simp [forL]⟩
  | p :: PP, L, x7, x8, h => by
    rw [List.length_cons, Nat.add_mul, Nat.one_mul] at h
    have e1 := all1 (T := T) (x1 := x1) (kk := kk) (pp := pp) (S := S) (k := k) (p := p) (WW := WW) L x8 (by omega)
    obtain ⟨x7', x8', e2⟩ := all2 (T := T) (x1 := x1) (kk := kk) (pp := pp) (S := S) (k := k) (WW := WW) (all := all) PP (L ++ WW.map fun w => thingD k p w) (some (.str p)) x8 (by simp; omega)
    refine ⟨x7', x8', ?_⟩
    have hg : hNm 7 (.str p) (AllE T x1 kk pp (.lst (WW.map Dx.int)) L (some (.str k)) x7 x8) S = some (AllE T x1 kk pp (.lst (WW.map Dx.int)) L (some (.str k)) (some (.str p)) x8) := rfl
    rw [List.map_cons]
    simp only [forL, stands, if_true, hg, e1, e2]
    simp
theorem flat_len (k : Tx) : ∀ (PP : List Tx) (WW : List Int), (PP.flatMap fun p => WW.map fun w => thingD k p w).length = PP.length * WW.length
  | [], _ => by simp
  | p :: PP, WW => by rw [List.flatMap_cons, List.length_append, flat_len k PP WW, List.length_cons, Nat.add_mul, List.length_map]; omega
theorem all3 {T x1 kk : Dx} {S : Sto} {PP : List Tx} {WW : List Int} {all : List Dx} : ∀ (KK : List Tx) (L : List Dx) (x6 x7 x8 : Option Dx), L.length + KK.length * (PP.length * WW.length) ≤ 1000000 →
    ∃ x6' x7' x8', forL (hNm 6) l_law_all_2 none all (KK.map Dx.str) (AllE T x1 kk (.lst (PP.map Dx.str)) (.lst (WW.map Dx.int)) L x6 x7 x8) S = .nx (AllE T x1 kk (.lst (PP.map Dx.str)) (.lst (WW.map Dx.int)) (L ++ things KK PP WW) x6' x7' x8') S
  | [], L, x6, x7, x8, _ => ⟨x6, x7, x8, by simp [forL, things]⟩
  | k :: KK, L, x6, x7, x8, h => by
    rw [List.length_cons, Nat.add_mul, Nat.one_mul] at h
    obtain ⟨y7, y8, e1⟩ := all2 (T := T) (x1 := x1) (kk := kk) (pp := .lst (PP.map Dx.str)) (S := S) (k := k) (WW := WW) (all := PP.map Dx.str) PP L x7 x8 (by omega)
    have hl := flat_len k PP WW
    obtain ⟨x6', x7', x8', e2⟩ := all3 (T := T) (x1 := x1) (kk := kk) (S := S) (PP := PP) (WW := WW) (all := all) KK (L ++ PP.flatMap fun p => WW.map fun w => thingD k p w) (some (.str k)) y7 y8 (by rw [List.length_append, hl]; omega)
    refine ⟨x6', x7', x8', ?_⟩
    have hg : hNm 6 (.str k) (AllE T x1 kk (.lst (PP.map Dx.str)) (.lst (WW.map Dx.int)) L x6 x7 x8) S = some (AllE T x1 kk (.lst (PP.map Dx.str)) (.lst (WW.map Dx.int)) L (some (.str k)) x7 x8) := rfl
    have eb : l_law_all_2 (AllE T x1 kk (.lst (PP.map Dx.str)) (.lst (WW.map Dx.int)) L (some (.str k)) x7 x8) S = forL (hNm 7) l_law_all_1 none (PP.map Dx.str) (PP.map Dx.str) (AllE T x1 kk (.lst (PP.map Dx.str)) (.lst (WW.map Dx.int)) L (some (.str k)) x7 x8) S := by
      simp [l_law_all_2, wD, AllE]
    rw [List.map_cons]
    simp only [forL, stands, if_true, hg, eb, e1, e2]
    simp [things]
/-- two trees' things -/
theorem law_all_ok {t u : Tr} {d b : Nat} (ht : t.Ok d b) (hu : u.Ok d b) (hd : d ≤ 10) (hb : b ≤ 100) (s : Sto) (h1 : (gk t).length + (gk u).length ≤ 85) (h2 : (gp t).length + (gp u).length ≤ 85) (h3 : (gw t).length + (gw u).length ≤ 85) :
    ∃ x y, m_law_all [.lst [t.dx, u.dx]] s = .ok (.lst (things (gkL [t, u] ++ [x]) (gpL [t, u] ++ [y]) (sortI (0 :: gwL [t, u])))) s := by
  have hB : (Tr.both [t, u]).Ok (d + 1) (2 * b) := by unfold Tr.Ok; exact ⟨by simp, by simp, b, by simp, by simp [ht, hu]⟩
  have m1 : m_law_gathered = q_law_gathered 50 := rfl
  have k1 := (gk_ok (d + 1) 50 (2 * b) _ s (by omega) (by omega) hB).2
  have k2 := (gp_ok (d + 1) 50 (2 * b) _ s (by omega) (by omega) hB).2
  have k3 := (gw_ok (d + 1) 50 (2 * b) _ s (by omega) (by omega) hB).2
  simp only [gk, gp, gw, Tr.dx, dxL_map, List.map_cons, List.map_nil] at k1 k2 k3
  have l1 : (gkL [t, u]).length ≤ 85 := by simp [gkL]; omega
  have l2 : (gpL [t, u]).length ≤ 85 := by simp [gpL]; omega
  have l3 : (gwL [t, u]).length ≤ 85 := by simp [gwL]; omega
  obtain ⟨x, e1⟩ := law_beside_ok (gkL [t, u]) s (by omega)
  obtain ⟨y, e2⟩ := law_beside_ok (gpL [t, u]) s (by omega)
  refine ⟨x, y, ?_⟩
  have lw : (sortI (0 :: gwL [t, u])).length ≤ 86 := by
    have := len_sortR ltI (0 :: gwL [t, u])
    unfold sortI
    simp at this
    omega
  have sv : sortV (.int 0 :: (gwL [t, u]).map Dx.int) = some ((sortI (0 :: gwL [t, u])).map Dx.int) := sortV_ints (0 :: gwL [t, u])
  have hm : (gkL [t, u] ++ [x]).length * ((gpL [t, u] ++ [y]).length * (sortI (0 :: gwL [t, u])).length) ≤ 86 * (86 * 86) :=
    Nat.mul_le_mul (by simp; omega) (Nat.mul_le_mul (by simp; omega) lw)
  obtain ⟨x6, x7, x8, e3⟩ := all3 (T := .lst [t.dx, u.dx]) (x1 := .tup [.str (tx "both"), .tup [t.dx, u.dx]]) (kk := .lst ((gkL [t, u] ++ [x]).map Dx.str)) (S := s) (PP := gpL [t, u] ++ [y]) (WW := sortI (0 :: gwL [t, u])) (all := (gkL [t, u] ++ [x]).map Dx.str) (gkL [t, u] ++ [x]) [] none none none (by simp only [List.length_nil]; omega)
  generalize gkL [t, u] = GK at *
  generalize gpL [t, u] = GP at *
  generalize gwL [t, u] = GW at *
  simp only [AllE] at e3
  simp [-List.map_append, m_law_all, b_law_all, m1, k1, k2, k3, e1, e2, sv, wD, e3, show 1 + GW.length ≤ 1000000 from by omega, show GW.length + 1 ≤ 1000000 from by omega, show GW.length + 1 ≤ 2000 from by omega]

end Mo
namespace Mo
open Pm
theorem several_ok {xs : List Dx} {s : Sto} (h2 : 2 ≤ xs.length) (hl : xs.length ≤ 1000) (h : ∀ x ∈ xs, ∃ C fs, x = .obj C fs ∧ isSub C "Fit" = true) : m_Several_init [.lst xs] s = .ok [("fits", .lst xs)] s := by
  have e1 := lcL_all (g := hNm 2) (te := e_Several_init_1) (e := ⟨[none, some (.lst xs), none], [], none⟩) (c := none) (all := xs) (s := s) (em := id) (f := fun _ => .bl true) trivial xs (fun x hx => by
    obtain ⟨C, fs, rfl, hC⟩ := h x hx
    exact ⟨_, rfl, by simp [e_Several_init_1, hC]⟩)
  rw [List.map_id] at e1
  have e2 : dBools (xs.map fun _ => Dx.bl true) = some (xs.map fun _ => true) := bools_map (fun _ => true) _ (fun _ => rfl) xs
  have e3 : (xs.map fun _ => true).all id = true := by simp [List.all_map]
  simp only [List.map_const'] at e1 e2 e3
  simp [m_Several_init, b_Several_init, show ¬ ((xs.length : Int) < 2) from by omega, show xs.length ≤ 1000000 from by omega, e1, e2, e3]

end Mo
namespace Mo
open Pm
theorem is_name_ok {d : Dx} {s : Sto} (h : Known s d = true) (k : shortD d) : m_is_name [d] s = .ok (.bl (nameD d)) s := by
  cases d with
  | str z =>
    have e : tx "" = [] := rfl
    by_cases h1 : z = []
    · subst h1; simp [m_is_name, b_is_name, nameD, nameB, e]
    by_cases h2 : z.length ≤ 8
    · have h3 : ¬ (8 : Int) < z.length := by omega
      have hm : z.length ≤ most := k
      have hl := lcL_map (g := hNm 1) (tt := uYes) (te := eOp (inD false) (eVar 1) (eC (.str (tx "abcdefghijklmnopqrstuvwxyz")))) (e := ⟨[some (.str z), none], [], none⟩) (c := none) (all := z.map fun c => Dx.str [c]) (s := s)
        (f := fun d => match d with | .str [c] => .bl (decide (c ∈ letters)) | _ => .non) trivial (z.map fun c => Dx.str [c]) (fun x hx => by
          obtain ⟨c, _, rfl⟩ := List.mem_map.mp hx
          exact ⟨_, rfl, rfl, by simp [letters]; exact decide_eq_decide.mpr Iff.rfl⟩)
      rw [List.map_map] at hl
      have hb : dBools (z.map ((fun d => match d with | .str [c] => Dx.bl (decide (c ∈ letters)) | _ => .non) ∘ fun c => Dx.str [c])) = some (z.map fun c => decide (c ∈ letters)) := bools_map _ _ (fun x => rfl) z
      simp [m_is_name, b_is_name, nameD, nameB, e, h1, h2, h3, hm, hl, hb]
    · have h3 : (8 : Int) < z.length := by omega
      have hm : z.length ≤ most := k
      simp [m_is_name, b_is_name, nameD, nameB, e, h1, h2, h3, hm]
  | cell n =>
    simp only [Known] at h
    cases hs : s[n]? with
    | none => rw [hs] at h; cases h
    | some c => rw [hs] at h; cases c <;> first | (exact absurd (show false = true from h) (by decide)) | simp [m_is_name, b_is_name, hs, nameD]
  | _ => first
    | (simp [Known] at h; done)
    | simp [m_is_name, b_is_name, nameD]

end Mo
namespace Mo
open Pm
theorem are_names_ok {d : Dx} {s : Sto} (h : Known s d = true) (hx : ∀ xs, asM s d = some xs → xs.length ≤ 2000 ∧ ∀ x ∈ xs, Known s x = true ∧ shortD x) : m_are_names [d] s = .ok (.bl (namesD s d)) s := by
  have hb := isB_list h
  have ht := isTy_known h "list"
  cases hm : asM s d with
  | none =>
    rw [hm] at hb
    simp only [Option.isSome_none] at hb
    rw [hb] at ht
    simp [m_are_names, b_are_names, ht, namesD, hm]
  | some xs =>
    rw [hm] at hb
    simp only [Option.isSome_some] at hb
    rw [hb] at ht
    obtain ⟨hl, hk⟩ := hx xs hm
    obtain ⟨c, hw, hs⟩ := wD_asM (a := eVar 0) (e := ⟨[some d, none], [], none⟩) hm (by simp)
    have hc := lcL_map (g := hNm 1) (tt := uYes) (te := eCall m_is_name (aCons (eVar 1) aNil)) (e := ⟨[some d, none], [], none⟩) (f := fun x => .bl (nameD x)) hs xs (fun x hx => ⟨_, rfl, rfl, by simp [is_name_ok (hk x hx).1 (hk x hx).2]⟩)
    have hbs : dBools (xs.map fun x => Dx.bl (nameD x)) = some (xs.map nameD) := bools_map nameD _ (fun _ => rfl) xs
    have hall : (xs.map nameD).all id = xs.all nameD := by rw [List.all_map]; rfl
    have hlm : xs.length ≤ 1000000 := by omega
    obtain ⟨a1, a2⟩ := all_names xs
    have hwd : wD (eVar 0) ⟨[some d, none], [], none⟩ s = .ok (xs, c) s := hw
    cases hn : xs.all nameD with
    | true =>
      obtain ⟨zs, h1, h2, h3⟩ := a1 hn
      have hls := lenSetD_asM hm h1 (by omega)
      have hld := lenD_asM hm
      rw [hn] at hall
      have hu : (((unlike zs : Nat) : Int) = (xs.length : Int)) ↔ zs.Nodup := by
        rw [← unlike_eq, ← h3]; omega
      simp [-wD_at, m_are_names, b_are_names, ht, hwd, hlm, hc, hbs, hall, hls, hld, namesD, hm, namesL, h1, h2, hu]
    | false =>
      rw [hn] at hall
      have hnl : namesL xs = false := by
        unfold namesL
        cases hz : dStrs xs with
        | none => rfl
        | some zs => simp [a2 hn zs hz]
      simp [-wD_at, m_are_names, b_are_names, ht, hwd, hlm, hc, hbs, hall, namesD, hm, hnl]

end Mo
namespace Mo
open Pm
theorem named_ok {ns : List Tx} {d : Dx} {s : Sto} (h : NmL ns) (hl : ns.length ≤ 2000) (hm : asM s d = some (ns.map Dx.str)) : m_Named_init [d] s = .ok [("names", .lst (ns.map Dx.str))] s := by
  have kd : Known s d = true := by
    cases d with
    | lst xs => rfl
    | cell n =>
      simp only [asM] at hm
      cases hs : s[n]? with
      | none => simp [hs] at hm
      | some c => rw [hs] at hm; cases c with
        | lst xs => simp [Known, hs]
        | _ => cases hm
    | _ => cases hm
  have e1 := are_names_ok kd (fun xs q => by rw [hm] at q; cases q; exact rdOk_names h.1 hl)
  have e2 : namesD s d = true := by unfold namesD; rw [hm]; exact namesL_ok h.1 h.2.1
  rw [e2] at e1
  have e3 : eqE d (.lst []) s = .ok (.bl false) s := by
    rw [eqE_nil, asL_asM hm]
    cases ns with
    | nil => exact absurd rfl h.2.2
    | cons z ns => rfl
  simp [-eqE_nil, m_Named_init, b_Named_init, e1, e3, listD_asM (c := false) hm]

end Mo
namespace Mo
open Pm
theorem is_whole_ok {d : Dx} {s : Sto} (h : Known s d = true) : m_is_whole [d] s = .ok (.bl (isW d)) s := by
  cases d with
  | cell n =>
    simp only [Known] at h
    cases hs : s[n]? with
    | none => rw [hs] at h; cases h
    | some c => rw [hs] at h; cases c <;> first | (exact absurd (show false = true from h) (by decide)) | simp [m_is_whole, b_is_whole, hs, isW]
  | _ => first
    | (simp [Known] at h; done)
    | simp [m_is_whole, b_is_whole, isW]

end Mo
namespace Mo
open Pm
theorem is_weight_ok {d : Dx} {s : Sto} (h : Known s d = true) : m_is_weight [d] s = .ok (.bl (ge 0 d)) s := by
  have w1 := is_whole_ok h
  cases h1 : isW d with
  | false => rw [h1] at w1; simp [m_is_weight, b_is_weight, w1, ge_no h1]
  | true =>
    obtain ⟨i, rfl⟩ := isW_int h1
    rw [h1] at w1
    simp [m_is_weight, b_is_weight, w1, ge]

end Mo
namespace Mo
open Pm
theorem least_ok {d : Dx} {s : Sto} (h : Known s d = true) : m_Least_init [d] s = if ge 0 d = true then .ok [("weight", d)] s else .exc "NoFit" [] s := by
  have w := is_weight_ok h
  cases h1 : ge 0 d <;> rw [h1] at w <;> simp [m_Least_init, b_Least_init, w]

end Mo
namespace Mo
open Pm
theorem not_init_ok {C : String} {fs : Fs} {s : Sto} (h : isSub C "Fit" = true) : m_Not_init [.obj C fs] s = .ok [("fit", .obj C fs)] s := by
  simp [m_Not_init, b_Not_init, h]

end Mo
namespace Mo
open Pm
theorem made_ok : ∀ (d n b : Nat) (t : Tr) (s : Sto), d < n → b ≤ 900 → t.Ok d b → q_law_made n [t.dx] s = .ok t.fitO s
  | d, 0, _, _, _, h, _, _ => by omega
  | d, n + 1, b, t, s, h, hb, ht => by
    rw [q_law_made_s]
    cases t with
    | any => simp [b_law_made, Tr.dx, Tr.fitO]
    | weight i =>
      unfold Tr.Ok at ht
      have e := least_ok (d := .int i) (s := s) rfl
      rw [if_pos (by simp [ge, ht.1.1])] at e
      simp [b_law_made, Tr.dx, Tr.fitO, tx_inj, e]
    | kind ns =>
      unfold Tr.Ok at ht
      have e := named_ok (ns := ns) (d := .lst (ns.map Dx.str)) (s := s) ht.1 (by omega) rfl
      simp [b_law_made, Tr.dx, Tr.fitO, tx_inj, e]
    | place ns =>
      unfold Tr.Ok at ht
      have e := named_ok (ns := ns) (d := .lst (ns.map Dx.str)) (s := s) ht.1 (by omega) rfl
      simp [b_law_made, Tr.dx, Tr.fitO, tx_inj, e]
    | not t =>
      cases d with
      | zero => unfold Tr.Ok at ht; exact ht.elim
      | succ d =>
        unfold Tr.Ok at ht
        have ih := made_ok d n b t s (by omega) hb ht
        obtain ⟨C, fs, e1, e2⟩ := fitO_obj t
        have e3 := not_init_ok (fs := fs) (s := s) e2
        rw [e1] at ih
        simp [b_law_made, Tr.dx, Tr.fitO, tx_inj, ih, e3, e1]
    | both ts =>
      cases d with
      | zero => unfold Tr.Ok at ht; exact ht.elim
      | succ d =>
        unfold Tr.Ok at ht
        obtain ⟨h1, h2, c, h3, h4⟩ := ht
        have hc : c ≤ 900 := by have := Nat.mul_le_mul_right c (show 1 ≤ ts.length by omega); omega
        have e1 := lcL_all (g := hNm 1) (te := eCall (q_law_made n) (aCons (eVar 1) aNil)) (e := ⟨[some (.tup [.str (tx "both"), .tup (ts.map Tr.dx)]), none], [], none⟩) (c := none) (all := ts.map Tr.dx) (s := s) (em := Tr.dx) (f := Tr.fitO) trivial ts (fun t ht => ⟨_, rfl, by simp [made_ok d n c t s (by omega) hc (h4 t ht)]⟩)
        have e2 := several_ok (xs := ts.map Tr.fitO) (s := s) (by simpa using h1) (by simp; omega) (fun x hx => by
          obtain ⟨t, _, rfl⟩ := List.mem_map.mp hx
          exact fitO_obj t)
        simp [b_law_made, Tr.dx, Tr.fitO, tx_inj, dxL_map, fitL_map, e1, e2, show ts.length ≤ 1000000 from by omega]
    | either ts =>
      cases d with
      | zero => unfold Tr.Ok at ht; exact ht.elim
      | succ d =>
        unfold Tr.Ok at ht
        obtain ⟨h1, h2, c, h3, h4⟩ := ht
        have hc : c ≤ 900 := by have := Nat.mul_le_mul_right c (show 1 ≤ ts.length by omega); omega
        have e1 := lcL_all (g := hNm 1) (te := eCall (q_law_made n) (aCons (eVar 1) aNil)) (e := ⟨[some (.tup [.str (tx "either"), .tup (ts.map Tr.dx)]), none], [], none⟩) (c := none) (all := ts.map Tr.dx) (s := s) (em := Tr.dx) (f := Tr.fitO) trivial ts (fun t ht => ⟨_, rfl, by simp [made_ok d n c t s (by omega) hc (h4 t ht)]⟩)
        have e2 := several_ok (xs := ts.map Tr.fitO) (s := s) (by simpa using h1) (by simp; omega) (fun x hx => by
          obtain ⟨t, _, rfl⟩ := List.mem_map.mp hx
          exact fitO_obj t)
        simp [b_law_made, Tr.dx, Tr.fitO, tx_inj, dxL_map, fitL_map, e1, e2, show ts.length ≤ 1000000 from by omega]

end Mo
namespace Mo
open Pm
/-- the word of a number -/
def wrd (n : Nat) : Tx := if h : n < 26 then [97 + n] else wrd (n / 26) ++ [97 + n % 26]
termination_by n
decreasing_by omega
/-- what is ahead of its last sign -/
def wpre (n : Nat) : Tx := if n < 26 then [] else wrd (n / 26)
theorem wrd_eq (n : Nat) : wrd n = wpre n ++ [97 + n % 26] := by
  unfold wpre
  rw [wrd]
  split
  · rename_i h
    rw [Nat.mod_eq_of_lt h]; rfl
  · rfl
theorem wrd_ne (n : Nat) : wrd n ≠ [] := by rw [wrd_eq]; simp
theorem wrd_inj : ∀ (n m : Nat), wrd n = wrd m → n = m := by
  intro n
  induction n using Nat.strongRecOn with
  | ind n ih =>
    intro m h
    rw [wrd_eq, wrd_eq] at h
    obtain ⟨h1, h2⟩ := List.append_inj' h rfl
    have h2 : 97 + n % 26 = 97 + m % 26 := by simpa using h2
    unfold wpre at h1
    split at h1
    · rename_i hn
      split at h1
      · omega
      · exact absurd h1.symm (wrd_ne _)
    · rename_i hn
      split at h1
      · exact absurd h1 (wrd_ne _)
      · have := ih (n / 26) (by omega) (m / 26) h1
        omega
theorem wrd_lets : ∀ (n : Nat), ∀ c ∈ wrd n, c ∈ letters := by
  have hl : ∀ k, k < 26 → 97 + k ∈ letters := by decide +kernel
  intro n
  induction n using Nat.strongRecOn with
  | ind n ih =>
    intro c hc
    rw [wrd_eq] at hc
    rcases List.mem_append.mp hc with h | h
    · unfold wpre at h
      split at h
      · cases h
      · exact ih (n / 26) (by omega) c h
    · rw [List.mem_singleton.mp h]
      exact hl _ (by omega)
theorem wrd_len : ∀ (k n : Nat), n < 26 ^ (k + 1) → (wrd n).length ≤ k + 1
  | 0, n, h => by
    rw [wrd]
    have h : n < 26 := by simpa using h
    simp [h]
  | k + 1, n, h => by
    rw [wrd_eq]
    unfold wpre
    split
    · simp
    · have := wrd_len k (n / 26) (by rw [Nat.pow_succ] at h; omega)
      simp; omega
theorem wrd_name {n : Nat} (h : n < 100000000) : nameB (wrd n) = true :=
  nameB_of (wrd_ne n) (Nat.le_trans (wrd_len 5 n (Nat.lt_trans h (by decide))) (by decide)) (wrd_lets n)
theorem let_at {k : Nat} (h : k < 26) (s : Sto) : ixD (.str (tx "abcdefghijklmnopqrstuvwxyz")) (.int (k : Nat)) s = .ok (.str [97 + k]) s := by
  have hall : ∀ k, k < 26 → pyIx (tx "abcdefghijklmnopqrstuvwxyz") ((k : Nat) : Int) = some (97 + k) := by decide +kernel
  have := hall k h
  simp [this, show (tx "abcdefghijklmnopqrstuvwxyz").length ≤ 1000000 from by decide]
theorem word_ok (n : Nat) (hn : n < 100000000) (s : Sto) : m_word_of [.int n] s = .ok (.str (wrd n)) s := by
  refine mk_R (P := fun r => r = .ok (.str (wrd n)) s) rfl ?_
  have l0 : ixD (.str (tx "abcdefghijklmnopqrstuvwxyz")) (.int ((n : Int) % 26)) s = .ok (.str [97 + n % 26]) s := let_at (k := n % 26) (by omega) s
  have wl : ∀ m, m ≤ n → (wpre m).length + 1 ≤ 6 := fun m hm => by
    have := wrd_len 5 m (Nat.lt_of_le_of_lt hm (Nat.lt_trans hn (by decide)))
    rw [wrd_eq] at this
    simpa using this
  simp [-ixD_str, b_word_of, l0]
  refine whileL_ok (P := fun j e S => S = s ∧ j < 30 ∧ ∃ (m : Nat) (w : Tx), m ≤ n ∧ m < 26 ^ (j + 1) ∧ e = ⟨[some (.int m), some (.str w)], [], none⟩ ∧ wpre m ++ w = wrd n ∧ w ≠ [])
    (Z := fun r => toR (S.sq r _) = .ok (.str (wrd n)) s) ?_ fuel 6 _ s (by decide) ⟨rfl, by omega, n, [97 + n % 26], Nat.le_refl _, Nat.lt_trans hn (by decide), by simp, (wrd_eq n).symm, by simp⟩
  rintro j e S ⟨rfl, hj, m, w, hm, hmj, rfl, hw, hne⟩
  by_cases h : m < 26
  · have hi : (m : Int) < 26 := by omega
    refine .inl ⟨S, by simp [show ¬ (26 ≤ (m : Int)) from by omega, hi], ?_⟩
    have : wpre m = [] := by unfold wpre; simp [h]
    rw [this, List.nil_append] at hw
    simp [toR, hw]
  · have hi : (26 : Int) ≤ m := by omega
    refine .inr ⟨S, by simp [hi], ?_⟩
    obtain ⟨i, rfl⟩ : ∃ i, j = i + 1 := by
      cases j with
      | zero => simp at hmj; omega
      | succ i => exact ⟨i, rfl⟩
    have l1 : ixD (.str (tx "abcdefghijklmnopqrstuvwxyz")) (.int ((m : Int) / 26 % 26)) S = .ok (.str [97 + m / 26 % 26]) S := let_at (k := m / 26 % 26) (by omega) S
    have hwl : w.length ≤ 6 := by
      have := wrd_len 5 n (Nat.lt_trans hn (by decide))
      rw [← hw, List.length_append] at this
      omega
    have hp : wpre m = wrd (m / 26) := by unfold wpre; simp [h]
    have eb : l_word_of_1 ⟨[some (.int m), some (.str w)], [], none⟩ S = .nx ⟨[some (.int ((m / 26 : Nat) : Int)), some (.str ((97 + m / 26 % 26) :: w))], [], none⟩ S := by
      simp [-ixD_str, l_word_of_1, l1, show 1 + w.length ≤ 1000000 from by omega]
    rw [eb]
    refine ⟨i, by omega, rfl, by omega, m / 26, (97 + m / 26 % 26) :: w, by omega, by rw [Nat.pow_succ] at hmj; omega, rfl, ?_, by simp⟩
    rw [← hw, hp, wrd_eq (m / 26)]
    simp

end Mo
namespace Mo
open Pm
theorem nodup_few {α : Type} [DecidableEq α] : ∀ {l m : List α}, l.Nodup → (∀ x ∈ l, x ∈ m) → l.length ≤ m.length
  | [], _, _, _ => Nat.zero_le _
  | x :: l, m, nd, h => by
    obtain ⟨h1, h2⟩ := List.nodup_cons.mp nd
    have hx := h x List.mem_cons_self
    have := nodup_few (m := m.erase x) h2 fun y hy => (List.mem_erase_of_ne fun e : y = x => h1 (by rw [← e]; exact hy)).mpr (h y (List.mem_cons_of_mem _ hy))
    rw [List.length_erase_of_mem hx] at this
    have : 0 < m.length := List.length_pos_of_mem hx
    simp; omega
theorem words_few {zs : List Tx} {i : Nat} (h : ∀ k, k < i → wrd k ∈ zs) : i ≤ zs.length := by
  have nd : ((List.range i).map wrd).Nodup := by
    rw [List.nodup_iff_pairwise_ne, List.pairwise_map]
    exact List.nodup_range.imp fun h e => h (wrd_inj _ _ e)
  have := nodup_few nd fun x hx => by
    obtain ⟨k, hk, rfl⟩ := List.mem_map.mp hx
    exact h k (List.mem_range.mp hk)
  simpa using this
theorem beside_ok {zs : List Tx} {n : Nat} {s : Sto} (hs : s[n]? = some (.lst (zs.map Dx.str))) (hl : zs.length ≤ 2000) : ∃ m, m ≤ zs.length ∧ wrd m ∉ zs ∧ m_name_beside [.cell n] s = .ok (.str (wrd m)) s := by
  refine mk_R (P := fun r => ∃ m, m ≤ zs.length ∧ wrd m ∉ zs ∧ r = .ok (.str (wrd m)) s) rfl ?_
  simp [b_name_beside]
  refine whileL_ok (P := fun j e S => S = s ∧ ∃ i : Nat, j = zs.length - i ∧ i ≤ zs.length ∧ (∀ k, k < i → wrd k ∈ zs) ∧ e = ⟨[some (.cell n), some (.int i)], [], none⟩)
    (Z := fun r => ∃ m, m ≤ zs.length ∧ wrd m ∉ zs ∧ toR (S.sq r _) = .ok (.str (wrd m)) s) ?_ fuel zs.length _ s (by have : fuel = 1000000000000000000000000000000 := rfl; omega) ⟨rfl, 0, by omega, by omega, fun k h => by omega, rfl⟩
  rintro j e S ⟨rfl, i, rfl, hi, hk, rfl⟩
  have w := word_ok i (by omega) S
  have q := inD_names (v := wrd i) false hs
  by_cases h : wrd i ∈ zs
  · have hk2 : ∀ k, k < i + 1 → wrd k ∈ zs := fun k hk' => (Nat.lt_succ_iff_lt_or_eq.mp hk').elim (hk k) fun e => e ▸ h
    have := words_few hk2
    refine .inr ⟨S, by simp [-inD_cell, t_name_beside_1, w, q, h], ?_⟩
    have eb : l_name_beside_1 ⟨[some (.cell n), some (.int i)], [], none⟩ S = .nx ⟨[some (.cell n), some (.int ((i + 1 : Nat) : Int))], [], none⟩ S := by simp [l_name_beside_1]
    rw [eb]
    exact ⟨zs.length - (i + 1), by omega, rfl, i + 1, rfl, by omega, hk2, rfl⟩
  · exact .inl ⟨S, by simp [-inD_cell, t_name_beside_1, w, q, h], i, hi, h, by simp [toR, w]⟩

end Mo
namespace Mo
open Pm
theorem one_more_ok {zs : List Tx} {n : Nat} {s : Sto} (hs : s[n]? = some (.lst (zs.map Dx.str))) (hl : zs.length ≤ 2000) : ∃ m, m ≤ zs.length ∧ wrd m ∉ zs ∧ m_with_one_more [.cell n] s = .ok (.lst ((sortT zs ++ [wrd m]).map Dx.str)) s := by
  obtain ⟨m, h1, h2, h3⟩ := beside_ok hs hl
  refine ⟨m, h1, h2, ?_⟩
  have a : asL s (.cell n) = some (zs.map Dx.str) := by simp [asL, hs]
  have l := len_sortR ltT zs
  simp [-asL_cell, m_with_one_more, b_with_one_more, h3, a, sortV_strs, hl, show (sortT zs).length + 1 ≤ 1000000 from by unfold sortT; omega]

end Mo
namespace Mo
open Pm
theorem turns_ok (s : Sto) : m_Turns_init [] s = .ok [("kinds", .cell s.length), ("places", .cell (s.length + 1)), ("weights", .cell (s.length + 2))] (s ++ [.lst [], .lst [], .lst [.int 0]]) := by
  simp [m_Turns_init, b_Turns_init]

end Mo
namespace Mo
open Pm
theorem happening_ok {k p : Tx} {w : Int} {s : Sto} (hk : nameB k = true) (hp : nameB p = true) (hw : 0 ≤ w) : m_Happening_init [.str k, .str p, .int w] s = .ok [("kind", .str k), ("place", .str p), ("weight", .int w)] s := by
  have e1 := is_name_ok (d := .str k) (s := s) rfl (Nat.le_trans (nameB_len hk).2.1 (by decide))
  have e2 := is_name_ok (d := .str p) (s := s) rfl (Nat.le_trans (nameB_len hp).2.1 (by decide))
  have e3 := is_weight_ok (d := .int w) (s := s) rfl
  rw [show nameD (.str k) = true from hk] at e1
  rw [show nameD (.str p) = true from hp] at e2
  rw [show ge 0 (.int w) = true from by simp [ge, hw]] at e3
  simp [m_Happening_init, b_Happening_init, e1, e2, e3]

end Mo
namespace Mo
open Pm
def turnsO (n : Nat) : Dx := .obj "Turns" [("kinds", .cell n), ("places", .cell (n + 1)), ("weights", .cell (n + 2))]
/-- what stands of turns in the store: kinds, places, weights -/
def tsC (ks ps : List Tx) (ws : List Int) : Sto := [.lst (ks.map Dx.str), .lst (ps.map Dx.str), .lst (ws.map Dx.int)]
/-- its own, of a fit -/
def ok1 : Tr → List Tx
  | .kind ns => ns
  | _ => []
def op1 : Tr → List Tx
  | .place ns => ns
  | _ => []
def ow1 : Tr → List Int
  | .weight i => [i]
  | _ => []
theorem look_at_ok (s l : Sto) (ks ps : List Tx) (ws : List Int) (t : Tr) (h1 : ks.length + (ok1 t).length ≤ 100000) (h2 : ps.length + (op1 t).length ≤ 100000) (h3 : ws.length + (ow1 t).length ≤ 100000) :
    m_Turns_look_at [turnsO s.length, t.fitO] (s ++ (tsC ks ps ws ++ l)) = .ok .non (s ++ (tsC (ks ++ ok1 t) (ps ++ op1 t) (ws ++ ow1 t) ++ l)) := by
  cases t with
  | kind ns =>
    have h1 : ks.length + ns.length ≤ 100000 := h1
    simp [turnsO, tsC, ok1, op1, ow1, m_Turns_look_at, b_Turns_look_at, Tr.fitO, List.lookup, show ks.length + ns.length ≤ 1000000 from by omega]
  | place ns =>
    have h2 : ps.length + ns.length ≤ 100000 := h2
    simp [turnsO, tsC, ok1, op1, ow1, m_Turns_look_at, b_Turns_look_at, Tr.fitO, List.lookup, show ps.length + ns.length ≤ 1000000 from by omega]
  | weight i =>
    have h3 : ws.length + 1 ≤ 100000 := h3
    simp [turnsO, tsC, ok1, op1, ow1, m_Turns_look_at, b_Turns_look_at, Tr.fitO, List.lookup, show ws.length < 1000000 from by omega]
  | _ => simp [turnsO, tsC, ok1, op1, ow1, m_Turns_look_at, b_Turns_look_at, Tr.fitO, List.lookup]

end Mo
namespace Mo
open Pm
/-- what is within a fit -/
def kids : Tr → List Tr
  | .not t => [t]
  | .both ts => ts
  | .either ts => ts
  | _ => []
theorem gk_kids (t : Tr) : gk t = ok1 t ++ gkL (kids t) := by cases t <;> simp [gk, ok1, kids, gkL]
theorem gp_kids (t : Tr) : gp t = op1 t ++ gpL (kids t) := by cases t <;> simp [gp, op1, kids, gpL]
theorem gw_kids (t : Tr) : gw t = ow1 t ++ gwL (kids t) := by cases t <;> simp [gw, ow1, kids, gwL]
theorem gkL_app : ∀ us vs : List Tr, gkL (us ++ vs) = gkL us ++ gkL vs
  | [], _ => by simp [gkL]
  | u :: us, vs => by simp [gkL, gkL_app us vs]
theorem gpL_app : ∀ us vs : List Tr, gpL (us ++ vs) = gpL us ++ gpL vs
  | [], _ => by simp [gpL]
  | u :: us, vs => by simp [gpL, gpL_app us vs]
theorem gwL_app : ∀ us vs : List Tr, gwL (us ++ vs) = gwL us ++ gwL vs
  | [], _ => by simp [gwL]
  | u :: us, vs => by simp [gwL, gwL_app us vs]
mutual
def sz : Tr → Nat
  | .not t => sz t + 1
  | .both ts => szL ts + 1
  | .either ts => szL ts + 1
  | _ => 1
def szL : List Tr → Nat
  | [] => 0
  | t :: ts => sz t + szL ts
end
theorem szL_app : ∀ us vs : List Tr, szL (us ++ vs) = szL us + szL vs
  | [], _ => by simp [szL]
  | u :: us, vs => by simp [szL, szL_app us vs]; omega
theorem sz_kids (t : Tr) : szL (kids t) + 1 = sz t := by cases t <;> simp [kids, sz, szL]
theorem len_szL : ∀ ts : List Tr, ts.length ≤ szL ts
  | [] => by simp [szL]
  | t :: ts => by
    have := len_szL ts
    have := sz_kids t
    simp [szL]; omega
noncomputable abbrev wtab : List (String × MF) := [("Either", m_Several_within), ("Any", m_Fit_within), ("Kind", m_Fit_within), ("Place", m_Fit_within), ("Least", m_Fit_within), ("Not", m_Not_within), ("Both", m_Several_within)]
theorem within_ok {t : Tr} {e : En} {s : Sto} (h : e.sl[3]? = some (some t.fitO)) (hl : szL (kids t) ≤ 100000) : eMeth wtab (eVar 3) aNil e s = .ok (.lst ((kids t).map Tr.fitO)) s := by
  cases t <;> simp [h, kids, Tr.fitO, wtab, List.lookup, m_Several_within, b_Several_within, m_Fit_within, b_Fit_within, m_Not_within, b_Not_within, fitL_map]
/-- on the way: what is told, what is left -/
def ThrI (s : Sto) (T0 : List Tr) (x1 : Dx) (j : Nat) (e : En) (S : Sto) : Prop := ∃ (ks ps : List Tx) (ws : List Int) (ts : List Tr) (x3 : Option Dx), e = ⟨[some (turnsO s.length), some x1, some (.cell (s.length + 3)), x3], [], none⟩ ∧ S = s ++ (tsC ks ps ws ++ [.lst (ts.map Tr.fitO)]) ∧ szL ts = j ∧ szL ts ≤ szL T0 ∧
  ks.length + (gkL ts).length = (gkL T0).length ∧ ps.length + (gpL ts).length = (gpL T0).length ∧ ws.length + (gwL ts).length = (gwL T0).length + 1 ∧
  (∀ z, z ∈ gkL T0 ↔ z ∈ ks ∨ z ∈ gkL ts) ∧ (∀ z, z ∈ gpL T0 ↔ z ∈ ps ∨ z ∈ gpL ts) ∧ (∀ z, z = 0 ∨ z ∈ gwL T0 ↔ z ∈ ws ∨ z ∈ gwL ts)
def ThrP (s : Sto) (T0 : List Tr) (r : R Dx) : Prop := ∃ (ks ps : List Tx) (ws : List Int) (l : Sto), ks.length = (gkL T0).length ∧ ps.length = (gpL T0).length ∧ ws.length = (gwL T0).length + 1 ∧ (∀ z, z ∈ gkL T0 ↔ z ∈ ks) ∧ (∀ z, z ∈ gpL T0 ↔ z ∈ ps) ∧ (∀ z, z = 0 ∨ z ∈ gwL T0 ↔ z ∈ ws) ∧ r = .ok .non (s ++ (tsC ks ps ws ++ l))
theorem pop_ok (s : Sto) (ks ps : List Tx) (ws : List Int) (us : List Tr) (t : Tr) (x0 x1 x3 : Option Dx) : ePop (eVar 2) ⟨[x0, x1, some (.cell (s.length + 3)), x3], [], none⟩ (s ++ (tsC ks ps ws ++ [.lst ((us ++ [t]).map Tr.fitO)])) = .ok t.fitO (s ++ (tsC ks ps ws ++ [.lst (us.map Tr.fitO)])) := by
  simp [tsC]
theorem ext_ok (s : Sto) (ks ps : List Tx) (ws : List Int) (us vs : List Tr) (x0 x1 x3 : Option Dx) {a : ME} (h : us.length + vs.length ≤ 100000) (ha : a ⟨[x0, x1, some (.cell (s.length + 3)), x3], [], none⟩ (s ++ (tsC ks ps ws ++ [.lst (us.map Tr.fitO)])) = .ok (.lst (vs.map Tr.fitO)) (s ++ (tsC ks ps ws ++ [.lst (us.map Tr.fitO)]))) :
    eExt (eVar 2) a ⟨[x0, x1, some (.cell (s.length + 3)), x3], [], none⟩ (s ++ (tsC ks ps ws ++ [.lst (us.map Tr.fitO)])) = .ok .non (s ++ (tsC ks ps ws ++ [.lst ((us ++ vs).map Tr.fitO)])) := by
  simp [tsC] at ha ⊢
  simp [ha, show us.length + vs.length ≤ 1000000 from by omega]
theorem through_ok (s : Sto) (T0 : List Tr) (h0 : szL T0 ≤ 10000) (h1 : (gkL T0).length ≤ 2000) (h2 : (gpL T0).length ≤ 2000) (h3 : (gwL T0).length ≤ 1999) : ThrP s T0 (m_Turns_look_through [turnsO s.length, .lst (T0.map Tr.fitO)] (s ++ tsC [] [] [0])) := by
  refine mk_R rfl ?_
  have len3 : (tsC [] [] [0]).length = 3 := rfl
  simp [b_Turns_look_through, len3]
  refine whileL_ok (P := ThrI s T0 (.lst (T0.map Tr.fitO))) (Z := fun r => ThrP s T0 (toR r)) ?_ fuel (szL T0) _ _ (by have : fuel = 1000000000000000000000000000000 := rfl; omega) ?_
  rotate_left
  · exact ⟨[], [], [0], T0, none, by simp, by simp, rfl, Nat.le_refl _, by simp, by simp, by simp; omega, by simp, by simp, by simp⟩
  rintro j e S ⟨ks, ps, ws, ts, x3, rfl, rfl, rfl, hle, l1, l2, l3, m1, m2, m3⟩
  have at3 : asL (s ++ (tsC ks ps ws ++ [.lst (ts.map Tr.fitO)])) (.cell (s.length + 3)) = some (ts.map Tr.fitO) := by simp [tsC]
  by_cases hts : ts = []
  · subst hts
    simp only [List.map_nil] at at3 ⊢
    refine .inl ⟨s ++ (tsC ks ps ws ++ [.lst []]), by simp [-asL_cell, t_Turns_look_through_1, at3], ks, ps, ws, _, by simpa [gkL] using l1, by simpa [gpL] using l2, by simpa [gwL] using l3, by simpa [gkL] using m1, by simpa [gpL] using m2, by simpa [gwL] using m3, by simp [toR]; rfl⟩
  · obtain ⟨us, t, rfl⟩ : ∃ us t, ts = us ++ [t] := ⟨ts.dropLast, ts.getLast hts, (List.dropLast_concat_getLast hts).symm⟩
    have t1 : t_Turns_look_through_1 ⟨[some (turnsO s.length), some (.lst (T0.map Tr.fitO)), some (.cell (s.length + 3)), x3], [], none⟩ (s ++ (tsC ks ps ws ++ [.lst ((us ++ [t]).map Tr.fitO)])) = .ok true (s ++ (tsC ks ps ws ++ [.lst ((us ++ [t]).map Tr.fitO)])) := by
      simp [-asL_cell, -List.map_append, t_Turns_look_through_1, at3]
    refine .inr ⟨_, t1, ?_⟩
    rw [gkL_app] at l1 m1
    rw [gpL_app] at l2 m2
    rw [gwL_app] at l3 m3
    rw [szL_app] at hle ⊢
    have kt : szL [t] = szL (kids t) + 1 := by rw [sz_kids]; simp [szL]
    have k1 : gkL [t] = ok1 t ++ gkL (kids t) := by simp [gkL, gk_kids t]
    have k2 : gpL [t] = op1 t ++ gpL (kids t) := by simp [gpL, gp_kids t]
    have k3 : gwL [t] = ow1 t ++ gwL (kids t) := by simp [gwL, gw_kids t]
    rw [k1] at l1 m1
    rw [k2] at l2 m2
    rw [k3] at l3 m3
    simp only [List.length_append] at l1 l2 l3
    have p1 := pop_ok s ks ps ws us t (some (turnsO s.length)) (some (.lst (T0.map Tr.fitO))) x3
    have lk := look_at_ok s [.lst (us.map Tr.fitO)] ks ps ws t (by omega) (by omega) (by omega)
    have mt : eMeth [("Turns", m_Turns_look_at)] (eVar 0) (aCons (eVar 3) aNil) ⟨[some (turnsO s.length), some (.lst (T0.map Tr.fitO)), some (.cell (s.length + 3)), some t.fitO], [], none⟩ (s ++ (tsC ks ps ws ++ [.lst (us.map Tr.fitO)])) = .ok .non (s ++ (tsC (ks ++ ok1 t) (ps ++ op1 t) (ws ++ ow1 t) ++ [.lst (us.map Tr.fitO)])) := by
      simp only [turnsO] at lk ⊢
      simp [List.lookup, lk]
    have lu := len_szL us
    have lv := len_szL (kids t)
    have wt := within_ok (t := t) (e := ⟨[some (turnsO s.length), some (.lst (T0.map Tr.fitO)), some (.cell (s.length + 3)), some t.fitO], [], none⟩) (s := s ++ (tsC (ks ++ ok1 t) (ps ++ op1 t) (ws ++ ow1 t) ++ [.lst (us.map Tr.fitO)])) rfl (by omega)
    have p2 := ext_ok s (ks ++ ok1 t) (ps ++ op1 t) (ws ++ ow1 t) us (kids t) (some (turnsO s.length)) (some (.lst (T0.map Tr.fitO))) (some t.fitO) (by omega) wt
    have eb : l_Turns_look_through_1 ⟨[some (turnsO s.length), some (.lst (T0.map Tr.fitO)), some (.cell (s.length + 3)), x3], [], none⟩ (s ++ (tsC ks ps ws ++ [.lst ((us ++ [t]).map Tr.fitO)])) = .nx ⟨[some (turnsO s.length), some (.lst (T0.map Tr.fitO)), some (.cell (s.length + 3)), some t.fitO], [], none⟩ (s ++ (tsC (ks ++ ok1 t) (ps ++ op1 t) (ws ++ ow1 t) ++ [.lst ((us ++ kids t).map Tr.fitO)])) := by
      simp [-eMeth_at, -ePop_at, -eExt_at, -List.map_append, l_Turns_look_through_1, p1, mt, p2]
    rw [eb]
    refine ⟨szL (us ++ kids t), by rw [szL_app]; omega, ks ++ ok1 t, ps ++ op1 t, ws ++ ow1 t, us ++ kids t, _, rfl, rfl, rfl, by rw [szL_app]; omega, ?_, ?_, ?_, fun z => ?_, fun z => ?_, fun z => ?_⟩
    · rw [gkL_app]; simp only [List.length_append]; omega
    · rw [gpL_app]; simp only [List.length_append]; omega
    · rw [gwL_app]; simp only [List.length_append]; omega
    · rw [m1 z, gkL_app]; simp only [List.mem_append]; exact iff_of_eq (by ac_rfl)
    · rw [m2 z, gpL_app]; simp only [List.mem_append]; exact iff_of_eq (by ac_rfl)
    · rw [m3 z, gwL_app]; simp only [List.mem_append]; exact iff_of_eq (by ac_rfl)

end Mo
namespace Mo
open Pm
theorem gw_ge : ∀ (d b : Nat) (t : Tr), t.Ok d b → ∀ z ∈ gw t, 0 ≤ z ∧ z < 1000000 := by
  intro d
  induction d with
  | zero =>
    intro b t h z hz
    cases t with
    | weight i => unfold Tr.Ok at h; simp only [gw, List.mem_singleton] at hz; subst hz; exact h.1
    | _ => first | (simp [gw] at hz; done) | (unfold Tr.Ok at h; exact h.elim)
  | succ d ih =>
    have lst : ∀ (ts : List Tr) (c : Nat), (∀ t ∈ ts, t.Ok d c) → ∀ z ∈ gwL ts, 0 ≤ z ∧ z < 1000000 := by
      intro ts c
      induction ts with
      | nil => intro _ z hz; simp [gwL] at hz
      | cons t ts iht =>
        intro h z hz
        simp only [gwL, List.mem_append] at hz
        rcases hz with hz | hz
        · exact ih c t (h t List.mem_cons_self) z hz
        · exact iht (fun t ht => h t (List.mem_cons_of_mem _ ht)) z hz
    intro b t h z hz
    cases t with
    | weight i => unfold Tr.Ok at h; simp only [gw, List.mem_singleton] at hz; subst hz; exact h.1
    | not t => unfold Tr.Ok at h; exact ih b t h z (by simpa [gw] using hz)
    | both ts => unfold Tr.Ok at h; obtain ⟨_, _, c, _, h4⟩ := h; exact lst ts c h4 z (by simpa [gw] using hz)
    | either ts => unfold Tr.Ok at h; obtain ⟨_, _, c, _, h4⟩ := h; exact lst ts c h4 z (by simpa [gw] using hz)
    | _ => simp [gw] at hz
/-- where it stands: the fits, the function, the turns, places, weights -/
def FE (a0 a2 : Dx) (pp ww : Dx) (x5 x6 x7 x8 : Option Dx) : En := ⟨[some a0, some .unk, some a2, some pp, some ww, x5, x6, x7, x8], [], none⟩
section
variable {r : MF} {f : Tx → Tx → Int → Bool} {S : Sto} {a0 a2 pp ww : Dx}
theorem fw1 (hr : ∀ k p w, r [hapO k p w] S = .ok (.bl (f k p w)) S) {k p : Tx} (hk : nameB k = true) (hp : nameB p = true) {WW : List Int} (hw : ∀ w ∈ WW, 0 ≤ w) (x7 x8 : Option Dx) :
    (∃ w, 0 ≤ w ∧ f k p w = true ∧ forL (hNm 7) (l_found_where_1 r) none (WW.map Dx.int) (WW.map Dx.int) (FE a0 a2 pp ww (some (.str k)) (some (.str p)) x7 x8) S = .rt (hapO k p w) S) ∨
    ((∀ w ∈ WW, f k p w = false) ∧ ∃ x7' x8', forL (hNm 7) (l_found_where_1 r) none (WW.map Dx.int) (WW.map Dx.int) (FE a0 a2 pp ww (some (.str k)) (some (.str p)) x7 x8) S = .nx (FE a0 a2 pp ww (some (.str k)) (some (.str p)) x7' x8') S) := by
  refine forL_okX (c := none) (P := fun i e s => s = S ∧ (∀ w ∈ WW.take i, f k p w = false) ∧ ∃ x7 x8, e = FE a0 a2 pp ww (some (.str k)) (some (.str p)) x7 x8)
    (Z := fun z => (∃ w, 0 ≤ w ∧ f k p w = true ∧ z = .rt (hapO k p w) S) ∨ ((∀ w ∈ WW, f k p w = false) ∧ ∃ x7' x8', z = .nx (FE a0 a2 pp ww (some (.str k)) (some (.str p)) x7' x8') S)) (fun _ _ _ _ => trivial) _ ?_ ?_ _ _ ⟨rfl, by simp, x7, x8, rfl⟩
  · rintro e s ⟨rfl, h, x7, x8, rfl⟩
    exact .inr ⟨by simpa using h, x7, x8, rfl⟩
  · rintro i x hx e s ⟨rfl, h, x7, x8, rfl⟩
    obtain ⟨w, hwi, rfl⟩ : ∃ w, WW[i]? = some w ∧ x = .int w := by
      rw [List.getElem?_map] at hx
      obtain ⟨w, h1, h2⟩ := Option.map_eq_some_iff.mp hx
      exact ⟨w, h1, h2.symm⟩
    have hw0 := hw w (List.mem_of_getElem? hwi)
    refine ⟨FE a0 a2 pp ww (some (.str k)) (some (.str p)) (some (.int w)) x8, rfl, ?_⟩
    have e1 := happening_ok (s := s) hk hp hw0
    have e2 := hr k p w
    simp only [hapO] at e2
    cases hf : f k p w with
    | true =>
      have : l_found_where_1 r (FE a0 a2 pp ww (some (.str k)) (some (.str p)) (some (.int w)) x8) s = .rt (hapO k p w) s := by
        rw [hf] at e2
        simp [l_found_where_1, FE, e1, e2, hapO]
      rw [this]
      exact .inl ⟨w, hw0, hf, rfl⟩
    | false =>
      have : l_found_where_1 r (FE a0 a2 pp ww (some (.str k)) (some (.str p)) (some (.int w)) x8) s = .nx (FE a0 a2 pp ww (some (.str k)) (some (.str p)) (some (.int w)) (some (hapO k p w))) s := by
        rw [hf] at e2
        simp [l_found_where_1, FE, e1, e2, hapO]
      rw [this]
      refine ⟨rfl, fun v hv => ?_, _, _, rfl⟩
      rw [List.take_add_one, hwi] at hv
      rcases List.mem_append.mp hv with z | z
      · exact h v z
      · simp at z; rw [z]; exact hf
theorem fw2 (hr : ∀ k p w, r [hapO k p w] S = .ok (.bl (f k p w)) S) {k : Tx} (hk : nameB k = true) {PP : List Tx} (hp : ∀ p ∈ PP, nameB p = true) {WW : List Int} (hw : ∀ w ∈ WW, 0 ≤ w) (x6 x7 x8 : Option Dx) :
    (∃ p w, nameB p = true ∧ 0 ≤ w ∧ f k p w = true ∧ forL (hNm 6) (l_found_where_2 r) none (PP.map Dx.str) (PP.map Dx.str) (FE a0 a2 pp (.lst (WW.map Dx.int)) (some (.str k)) x6 x7 x8) S = .rt (hapO k p w) S) ∨
    ((∀ p ∈ PP, ∀ w ∈ WW, f k p w = false) ∧ ∃ x6' x7' x8', forL (hNm 6) (l_found_where_2 r) none (PP.map Dx.str) (PP.map Dx.str) (FE a0 a2 pp (.lst (WW.map Dx.int)) (some (.str k)) x6 x7 x8) S = .nx (FE a0 a2 pp (.lst (WW.map Dx.int)) (some (.str k)) x6' x7' x8') S) := by
  refine forL_okX (c := none) (P := fun i e s => s = S ∧ (∀ p ∈ PP.take i, ∀ w ∈ WW, f k p w = false) ∧ ∃ x6 x7 x8, e = FE a0 a2 pp (.lst (WW.map Dx.int)) (some (.str k)) x6 x7 x8)
    (Z := fun z => (∃ p w, nameB p = true ∧ 0 ≤ w ∧ f k p w = true ∧ z = .rt (hapO k p w) S) ∨ ((∀ p ∈ PP, ∀ w ∈ WW, f k p w = false) ∧ ∃ x6' x7' x8', z = .nx (FE a0 a2 pp (.lst (WW.map Dx.int)) (some (.str k)) x6' x7' x8') S)) (fun _ _ _ _ => trivial) _ ?_ ?_ _ _ ⟨rfl, by simp, x6, x7, x8, rfl⟩
  · rintro e s ⟨rfl, h, x6, x7, x8, rfl⟩
    exact .inr ⟨by simpa using h, x6, x7, x8, rfl⟩
  · rintro i x hx e s ⟨rfl, h, x6, x7, x8, rfl⟩
    obtain ⟨p, hpi, rfl⟩ : ∃ p, PP[i]? = some p ∧ x = .str p := by
      rw [List.getElem?_map] at hx
      obtain ⟨p, h1, h2⟩ := Option.map_eq_some_iff.mp hx
      exact ⟨p, h1, h2.symm⟩
    have hp0 := hp p (List.mem_of_getElem? hpi)
    refine ⟨FE a0 a2 pp (.lst (WW.map Dx.int)) (some (.str k)) (some (.str p)) x7 x8, rfl, ?_⟩
    have eb : l_found_where_2 r (FE a0 a2 pp (.lst (WW.map Dx.int)) (some (.str k)) (some (.str p)) x7 x8) s = forL (hNm 7) (l_found_where_1 r) none (WW.map Dx.int) (WW.map Dx.int) (FE a0 a2 pp (.lst (WW.map Dx.int)) (some (.str k)) (some (.str p)) x7 x8) s := by
      simp [l_found_where_2, wD, FE]
    rw [eb]
    rcases fw1 (a0 := a0) (a2 := a2) (pp := pp) (ww := .lst (WW.map Dx.int)) hr hk hp0 hw x7 x8 with ⟨w, h1, h2, h3⟩ | ⟨h1, x7', x8', h3⟩
    · rw [h3]
      exact .inl ⟨p, w, hp0, h1, h2, rfl⟩
    · rw [h3]
      refine ⟨rfl, fun v hv => ?_, _, _, _, rfl⟩
      rw [List.take_add_one, hpi] at hv
      rcases List.mem_append.mp hv with z | z
      · exact h v z
      · simp at z; rw [z]; exact h1
theorem fw3 (hr : ∀ k p w, r [hapO k p w] S = .ok (.bl (f k p w)) S) {KK : List Tx} (hk : ∀ k ∈ KK, nameB k = true) {PP : List Tx} (hp : ∀ p ∈ PP, nameB p = true) {WW : List Int} (hw : ∀ w ∈ WW, 0 ≤ w) (x5 x6 x7 x8 : Option Dx) :
    (∃ k p w, nameB k = true ∧ nameB p = true ∧ 0 ≤ w ∧ f k p w = true ∧ forL (hNm 5) (l_found_where_3 r) none (KK.map Dx.str) (KK.map Dx.str) (FE a0 a2 (.lst (PP.map Dx.str)) (.lst (WW.map Dx.int)) x5 x6 x7 x8) S = .rt (hapO k p w) S) ∨
    ((∀ k ∈ KK, ∀ p ∈ PP, ∀ w ∈ WW, f k p w = false) ∧ ∃ e, forL (hNm 5) (l_found_where_3 r) none (KK.map Dx.str) (KK.map Dx.str) (FE a0 a2 (.lst (PP.map Dx.str)) (.lst (WW.map Dx.int)) x5 x6 x7 x8) S = .nx e S) := by
  refine forL_okX (c := none) (P := fun i e s => s = S ∧ (∀ k ∈ KK.take i, ∀ p ∈ PP, ∀ w ∈ WW, f k p w = false) ∧ ∃ x5 x6 x7 x8, e = FE a0 a2 (.lst (PP.map Dx.str)) (.lst (WW.map Dx.int)) x5 x6 x7 x8)
    (Z := fun z => (∃ k p w, nameB k = true ∧ nameB p = true ∧ 0 ≤ w ∧ f k p w = true ∧ z = .rt (hapO k p w) S) ∨ ((∀ k ∈ KK, ∀ p ∈ PP, ∀ w ∈ WW, f k p w = false) ∧ ∃ e, z = .nx e S)) (fun _ _ _ _ => trivial) _ ?_ ?_ _ _ ⟨rfl, by simp, x5, x6, x7, x8, rfl⟩
  · rintro e s ⟨rfl, h, x5, x6, x7, x8, rfl⟩
    exact .inr ⟨by simpa using h, _, rfl⟩
  · rintro i x hx e s ⟨rfl, h, x5, x6, x7, x8, rfl⟩
    obtain ⟨k, hki, rfl⟩ : ∃ k, KK[i]? = some k ∧ x = .str k := by
      rw [List.getElem?_map] at hx
      obtain ⟨k, h1, h2⟩ := Option.map_eq_some_iff.mp hx
      exact ⟨k, h1, h2.symm⟩
    have hk0 := hk k (List.mem_of_getElem? hki)
    refine ⟨FE a0 a2 (.lst (PP.map Dx.str)) (.lst (WW.map Dx.int)) (some (.str k)) x6 x7 x8, rfl, ?_⟩
    have eb : l_found_where_3 r (FE a0 a2 (.lst (PP.map Dx.str)) (.lst (WW.map Dx.int)) (some (.str k)) x6 x7 x8) s = forL (hNm 6) (l_found_where_2 r) none (PP.map Dx.str) (PP.map Dx.str) (FE a0 a2 (.lst (PP.map Dx.str)) (.lst (WW.map Dx.int)) (some (.str k)) x6 x7 x8) s := by
      simp [l_found_where_3, wD, FE]
    rw [eb]
    rcases fw2 (a0 := a0) (a2 := a2) (pp := .lst (PP.map Dx.str)) hr hk0 hp hw x6 x7 x8 with ⟨p, w, h0, h1, h2, h3⟩ | ⟨h1, x6', x7', x8', h3⟩
    · rw [h3]
      exact .inl ⟨k, p, w, hk0, h0, h1, h2, rfl⟩
    · rw [h3]
      refine ⟨rfl, fun v hv => ?_, _, _, _, _, rfl⟩
      rw [List.take_add_one, hki] at hv
      rcases List.mem_append.mp hv with z | z
      · exact h v z
      · simp at z; rw [z]; exact h1
end
/-- what comes of found_where -/
def FndP (T0 : List Tr) (f : Tx → Tx → Int → Bool) (s : Sto) (r : R Dx) : Prop := ∃ l, (∃ k p w, nameB k = true ∧ nameB p = true ∧ 0 ≤ w ∧ f k p w = true ∧ r = .ok (hapO k p w) (s ++ l)) ∨
  ((∃ kb pb, kb ∉ gkL T0 ∧ pb ∉ gpL T0 ∧ ∀ k p w, (k ∈ gkL T0 ∨ k = kb) → (p ∈ gpL T0 ∨ p = pb) → (w = 0 ∨ w ∈ gwL T0) → f k p w = false) ∧ r = .ok .non (s ++ l))
theorem found_ok (s : Sto) (T0 : List Tr) (f : Tx → Tx → Int → Bool) (r : MF) (hr : ∀ S k p w, r [hapO k p w] S = .ok (.bl (f k p w)) S) (h0 : szL T0 ≤ 10000) (h1 : (gkL T0).length ≤ 2000) (h2 : (gpL T0).length ≤ 2000) (h3 : (gwL T0).length ≤ 1999)
    (n1 : ∀ z ∈ gkL T0, nameB z = true) (n2 : ∀ z ∈ gpL T0, nameB z = true) (n3 : ∀ z ∈ gwL T0, 0 ≤ z) : FndP T0 f s (m_found_where r [.lst (T0.map Tr.fitO), .unk] s) := by
  refine mk_R rfl ?_
  obtain ⟨ks, ps, ws, l, l1, l2, l3, m1, m2, m3, e2⟩ := through_ok s T0 h0 h1 h2 h3
  have e1 := turns_ok s
  have a1 : (s ++ (tsC ks ps ws ++ l))[s.length]? = some (.lst (ks.map Dx.str)) := by simp [tsC]
  have a2 : (s ++ (tsC ks ps ws ++ l))[s.length + 1]? = some (.lst (ps.map Dx.str)) := by simp [tsC]
  have a3 : asL (s ++ (tsC ks ps ws ++ l)) (.cell (s.length + 2)) = some (ws.map Dx.int) := by simp [tsC]
  obtain ⟨mp, q1, q2, e3⟩ := one_more_ok a2 (by omega)
  obtain ⟨mk, q3, q4, e4⟩ := one_more_ok a1 (by omega)
  have tc : tsC [] [] [0] = [.lst [], .lst [], .lst [.int 0]] := rfl
  rw [tc] at e2
  simp only [turnsO] at e2
  have hr' := hr (s ++ (tsC ks ps ws ++ l))
  have hk : ∀ k ∈ sortT ks ++ [wrd mk], nameB k = true := fun k hk => by
    rcases List.mem_append.mp hk with z | z
    · exact n1 k ((m1 k).mpr (mem_sortT.mp z))
    · rw [List.mem_singleton.mp z]; exact wrd_name (by omega)
  have hp : ∀ k ∈ sortT ps ++ [wrd mp], nameB k = true := fun k hk => by
    rcases List.mem_append.mp hk with z | z
    · exact n2 k ((m2 k).mpr (mem_sortT.mp z))
    · rw [List.mem_singleton.mp z]; exact wrd_name (by omega)
  have hw : ∀ w ∈ sortI ws, 0 ≤ w := fun w hw => by
    rcases (m3 w).mpr (mem_sortI.mp hw) with z | z
    · omega
    · exact n3 w z
  have F := fw3 (a0 := .lst (T0.map Tr.fitO)) (a2 := turnsO s.length) hr' hk hp hw none none none none
  simp only [FE, turnsO] at F
  have lw : ws.length ≤ 2000 := by omega
  rcases F with ⟨k, p, w, h1, h2, h3, h4, h5⟩ | ⟨h4, e, h5⟩
  · refine ⟨tsC ks ps ws ++ l, .inl ⟨k, p, w, h1, h2, h3, h4, ?_⟩⟩
    simp [-asL_cell, -List.map_append, b_found_where, e1, e2, e3, e4, List.lookup, a3, sortV_ints, lw, wD, h5]
    rfl
  · refine ⟨tsC ks ps ws ++ l, .inr ⟨⟨wrd mk, wrd mp, fun z => q4 ((m1 _).mp z), fun z => q2 ((m2 _).mp z), fun k p w hk hp hw => ?_⟩, ?_⟩⟩
    · refine h4 k ?_ p ?_ w ?_
      · rcases hk with z | z
        · exact List.mem_append_left _ (mem_sortT.mpr ((m1 k).mp z))
        · rw [z]; simp
      · rcases hp with z | z
        · exact List.mem_append_left _ (mem_sortT.mpr ((m2 p).mp z))
        · rw [z]; simp
      · exact mem_sortI.mpr ((m3 w).mp hw)
    · simp [-asL_cell, -List.map_append, b_found_where, e1, e2, e3, e4, List.lookup, a3, sortV_ints, lw, wD, h5]
      rfl

end Mo
namespace Mo
open Pm
/-- the method of a fit's class, so many turns left -/
noncomputable def fitM (n : Nat) (t : Tr) : MF := match t with
  | .any => m_Any_fits_it
  | .weight _ => m_Least_fits_it
  | .kind _ => m_Kind_fits_it
  | .place _ => m_Place_fits_it
  | .not _ => q_Not_fits_it n
  | .both _ => q_Both_fits_it n
  | .either _ => q_Either_fits_it n
theorem all_bools (f : Tr → Bool) (ts : List Tr) : dBools (ts.map fun t => Dx.bl (f t)) = some (ts.map f) := bools_map f _ (fun _ => rfl) ts
theorem fits_it_ok (k p : Tx) (w : Int) : ∀ (d n b : Nat) (t : Tr) (s : Sto), d < n → t.Ok d b → fitM n t [t.fitO, hapO k p w] s = .ok (.bl (t.holds k p w)) s
  | d, 0, _, _, _, h, _ => by omega
  | d, n + 1, b, t, s, h, ht => by
    have inT : ∀ (v : Tx) (ns : List Tx), inD false (.str v) (.lst (ns.map Dx.str)) s = .ok (.bl (decide (v ∈ ns))) s := fun v ns => by
      unfold inD
      simp only [asQ_lst, flat, flat_strs, any_strs, Bool.and_self, if_true]
      simp
    cases t with
    | any => simp [fitM, m_Any_fits_it, b_Any_fits_it, Tr.holds]
    | weight i => simp [fitM, m_Least_fits_it, b_Least_fits_it, Tr.fitO, Tr.holds, hapO, List.lookup]
    | kind ns => simp [-inD_lst, fitM, m_Kind_fits_it, b_Kind_fits_it, Tr.fitO, Tr.holds, hapO, List.lookup, inT]
    | place ns => simp [-inD_lst, fitM, m_Place_fits_it, b_Place_fits_it, Tr.fitO, Tr.holds, hapO, List.lookup, inT]
    | not t =>
      cases d with
      | zero => unfold Tr.Ok at ht; exact ht.elim
      | succ d =>
        unfold Tr.Ok at ht
        have ih := fits_it_ok k p w d n b t s (by omega) ht
        show q_Not_fits_it (n + 1) _ _ = _
        rw [q_Not_fits_it_s]
        cases t <;> simp only [fitM, Tr.fitO, hapO] at ih <;> simp [b_Not_fits_it, Tr.fitO, hapO, Tr.holds, List.lookup] at ih ⊢ <;> simp [ih]
    | both ts =>
      cases d with
      | zero => unfold Tr.Ok at ht; exact ht.elim
      | succ d =>
        unfold Tr.Ok at ht
        obtain ⟨h1, h2, c, h3, h4⟩ := ht
        show q_Both_fits_it (n + 1) _ _ = _
        rw [q_Both_fits_it_s]
        have e1 := lcL_all (g := hNm 2) (te := e_Both_fits_it_1 (q_Both_fits_it n) (q_Either_fits_it n) (q_Not_fits_it n)) (e := ⟨[some (.obj "Both" [("fits", .lst (ts.map Tr.fitO))]), some (hapO k p w), none], [], none⟩) (c := none) (all := ts.map Tr.fitO) (s := s) (em := Tr.fitO) (f := fun t => .bl (t.holds k p w)) trivial ts (fun t ht => ⟨_, rfl, by
          have ih := fits_it_ok k p w d n c t s (by omega) (h4 t ht)
          cases t <;> simp only [fitM, Tr.fitO, hapO] at ih <;> simp [e_Both_fits_it_1, Tr.fitO, hapO, List.lookup] at ih ⊢ <;> simp [ih]⟩)
        have e2 := all_bools (Tr.holds k p w) ts
        have e3 : (ts.map (Tr.holds k p w)).all id = ts.all (Tr.holds k p w) := by rw [List.all_map]; rfl
        simp [b_Both_fits_it, Tr.fitO, fitL_map, Tr.holds, allT_all, List.lookup, e1, e2, e3, show ts.length ≤ 1000000 from by omega]
    | either ts =>
      cases d with
      | zero => unfold Tr.Ok at ht; exact ht.elim
      | succ d =>
        unfold Tr.Ok at ht
        obtain ⟨h1, h2, c, h3, h4⟩ := ht
        show q_Either_fits_it (n + 1) _ _ = _
        rw [q_Either_fits_it_s]
        have e1 := lcL_all (g := hNm 2) (te := e_Either_fits_it_1 (q_Both_fits_it n) (q_Either_fits_it n) (q_Not_fits_it n)) (e := ⟨[some (.obj "Either" [("fits", .lst (ts.map Tr.fitO))]), some (hapO k p w), none], [], none⟩) (c := none) (all := ts.map Tr.fitO) (s := s) (em := Tr.fitO) (f := fun t => .bl (t.holds k p w)) trivial ts (fun t ht => ⟨_, rfl, by
          have ih := fits_it_ok k p w d n c t s (by omega) (h4 t ht)
          cases t <;> simp only [fitM, Tr.fitO, hapO] at ih <;> simp [e_Either_fits_it_1, Tr.fitO, hapO, List.lookup] at ih ⊢ <;> simp [ih]⟩)
        have e2 := all_bools (Tr.holds k p w) ts
        have e3 : (ts.map (Tr.holds k p w)).any id = ts.any (Tr.holds k p w) := by rw [List.any_map]; rfl
        simp [b_Either_fits_it, Tr.fitO, fitL_map, Tr.holds, anyT_any, List.lookup, e1, e2, e3, show ts.length ≤ 1000000 from by omega]
/-- whatever fit is asked -/
theorem meth_fit {l : List (String × MF)} {a : ME} {as : MA} {e : En} {s : Sto} {t : Tr} {k p : Tx} {w : Int} {d b : Nat} (h1 : a e s = .ok t.fitO s) (h2 : as e s = .ok [hapO k p w] s) (ht : t.Ok d b) (hd : d < 50)
    (l1 : l.lookup "Any" = some m_Any_fits_it := by rfl) (l2 : l.lookup "Not" = some m_Not_fits_it := by rfl) (l3 : l.lookup "Both" = some m_Both_fits_it := by rfl) (l4 : l.lookup "Either" = some m_Either_fits_it := by rfl) (l5 : l.lookup "Kind" = some m_Kind_fits_it := by rfl) (l6 : l.lookup "Place" = some m_Place_fits_it := by rfl) (l7 : l.lookup "Least" = some m_Least_fits_it := by rfl) : eMeth l a as e s = .ok (.bl (t.holds k p w)) s := by
  have e2 := fits_it_ok k p w d 50 b t s hd ht
  have m1 : m_Either_fits_it = q_Either_fits_it 50 := rfl
  have m2 : m_Not_fits_it = q_Not_fits_it 50 := rfl
  have m3 : m_Both_fits_it = q_Both_fits_it 50 := rfl
  cases t <;> simp only [fitM, Tr.fitO] at e2 h1 <;> simp [h1, h2, m1, m2, m3, l1, l2, l3, l4, l5, l6, l7, e2]

end Mo
namespace Mo
open Pm
theorem ok_pos : ∀ (d b : Nat) (t : Tr), t.Ok d b → 1 ≤ b := by
  intro d
  induction d with
  | zero =>
    intro b t h
    cases t with
    | kind ns => unfold Tr.Ok at h; have := List.length_pos_iff.mpr h.1.2.2; omega
    | place ns => unfold Tr.Ok at h; have := List.length_pos_iff.mpr h.1.2.2; omega
    | weight i => unfold Tr.Ok at h; exact h.2
    | any => unfold Tr.Ok at h; exact h
    | _ => unfold Tr.Ok at h; exact h.elim
  | succ d ih =>
    intro b t h
    cases t with
    | kind ns => unfold Tr.Ok at h; have := List.length_pos_iff.mpr h.1.2.2; omega
    | place ns => unfold Tr.Ok at h; have := List.length_pos_iff.mpr h.1.2.2; omega
    | weight i => unfold Tr.Ok at h; exact h.2
    | any => unfold Tr.Ok at h; exact h
    | not t => unfold Tr.Ok at h; exact ih b t h
    | both ts =>
      unfold Tr.Ok at h
      obtain ⟨h1, _, c, h3, h4⟩ := h
      cases ts with
      | nil => simp at h1
      | cons t ts =>
        have := ih c t (h4 t List.mem_cons_self)
        have := Nat.le_mul_of_pos_left c (show 0 < (t :: ts).length by simp)
        omega
    | either ts =>
      unfold Tr.Ok at h
      obtain ⟨h1, _, c, h3, h4⟩ := h
      cases ts with
      | nil => simp at h1
      | cons t ts =>
        have := ih c t (h4 t List.mem_cons_self)
        have := Nat.le_mul_of_pos_left c (show 0 < (t :: ts).length by simp)
        omega
theorem sz_ok : ∀ (d b : Nat) (t : Tr), t.Ok d b → sz t ≤ (d + 1) * b := by
  intro d
  induction d with
  | zero =>
    intro b t h
    have := ok_pos 0 b t h
    cases t with
    | not t => unfold Tr.Ok at h; exact h.elim
    | both t => unfold Tr.Ok at h; exact h.elim
    | either t => unfold Tr.Ok at h; exact h.elim
    | _ => simp [sz]; omega
  | succ d ih =>
    intro b t h
    have hb := ok_pos _ b t h
    have lst : ∀ (ts : List Tr) (c : Nat), (∀ t ∈ ts, t.Ok d c) → szL ts ≤ ts.length * ((d + 1) * c) := by
      intro ts c
      induction ts with
      | nil => intro _; simp [szL]
      | cons t ts iht =>
        intro h
        have h1 := ih c t (h t List.mem_cons_self)
        have h2 := iht fun t ht => h t (List.mem_cons_of_mem _ ht)
        simp only [szL, List.length_cons, Nat.add_mul, Nat.one_mul] at *
        omega
    have mul : ∀ n c : Nat, n * c ≤ b → n * ((d + 1) * c) ≤ (d + 1) * b := fun n c h => by
      rw [Nat.mul_left_comm]
      exact Nat.mul_le_mul_left _ h
    have ds : (d + 1 + 1) * b = (d + 1) * b + b := by rw [Nat.add_mul (d + 1) 1 b, Nat.one_mul]
    rw [ds]
    cases t with
    | not t => unfold Tr.Ok at h; have := ih b t h; simp only [sz]; omega
    | both ts =>
      unfold Tr.Ok at h
      obtain ⟨_, _, c, h3, h4⟩ := h
      have h5 := lst ts c h4
      have h6 := mul _ _ h3
      simp only [sz]; omega
    | either ts =>
      unfold Tr.Ok at h
      obtain ⟨_, _, c, h3, h4⟩ := h
      have h5 := lst ts c h4
      have h6 := mul _ _ h3
      simp only [sz]; omega
    | _ => simp only [sz]; omega
def partF (t u : Tr) (k p : Tx) (w : Int) : Bool := t.holds k p w && !u.holds k p w
theorem parting_ok {t u : Tr} {d b : Nat} (ht : t.Ok d b) (hu : u.Ok d b) (hd : d ≤ 10) (hb : b ≤ 400) (s : Sto) (hs : s[0]? = some (.tbl 0)) : FndP [t, u] (partF t u) s (m_parting [t.fitO, u.fitO] s) := by
  refine mk_R rfl ?_
  have hr : ∀ S k p w, lamM e_parting_1 ⟨[some t.fitO, some u.fitO], [], none⟩ [hapO k p w] S = .ok (.bl (partF t u k p w)) S := fun S k p w => by
    rw [lamM_at]
    have q1 := meth_fit (l := [("Either", m_Either_fits_it), ("Any", m_Any_fits_it), ("Kind", m_Kind_fits_it), ("Place", m_Place_fits_it), ("Least", m_Least_fits_it), ("Not", m_Not_fits_it), ("Both", m_Both_fits_it)]) (a := eVar 0) (as := aCons (eVar 2) aNil) (e := ⟨[some t.fitO, some u.fitO] ++ [some (hapO k p w)], [], none⟩) (s := S) (t := t) (k := k) (p := p) (w := w) (by simp) (by simp) ht (by omega)
    have q2 := meth_fit (l := [("Either", m_Either_fits_it), ("Any", m_Any_fits_it), ("Kind", m_Kind_fits_it), ("Place", m_Place_fits_it), ("Least", m_Least_fits_it), ("Not", m_Not_fits_it), ("Both", m_Both_fits_it)]) (a := eVar 1) (as := aCons (eVar 2) aNil) (e := ⟨[some t.fitO, some u.fitO] ++ [some (hapO k p w)], [], none⟩) (s := S) (t := u) (k := k) (p := p) (w := w) (by simp) (by simp) hu (by omega)
    simp only [List.cons_append, List.nil_append] at q1 q2 ⊢
    cases h1 : t.holds k p w <;> simp [-eMeth_at, e_parting_1, q1, q2, partF, h1]
  have m1 := gk_ok d 50 b t s (by omega) (by omega) ht
  have m2 := gk_ok d 50 b u s (by omega) (by omega) hu
  have m3 := gp_ok d 50 b t s (by omega) (by omega) ht
  have m4 := gp_ok d 50 b u s (by omega) (by omega) hu
  have m5 := gw_ok d 50 b t s (by omega) (by omega) ht
  have m6 := gw_ok d 50 b u s (by omega) (by omega) hu
  have z1 := sz_ok d b t ht
  have z2 := sz_ok d b u hu
  have z3 : (d + 1) * b ≤ 11 * 400 := Nat.mul_le_mul (by omega) hb
  have F := found_ok s [t, u] (partF t u) _ hr (by simp only [szL]; omega) (by simp [gkL]; omega) (by simp [gpL]; omega) (by simp [gwL]; omega)
    (fun z hz => by simp [gkL] at hz; exact hz.elim (gk_names d b t ht z) (gk_names d b u hu z)) (fun z hz => by simp [gpL] at hz; exact hz.elim (gp_names d b t ht z) (gp_names d b u hu z))
    (fun z hz => by simp [gwL] at hz; exact hz.elim (fun h => (gw_ge d b t ht z h).1) (fun h => (gw_ge d b u hu z h).1))
  simp only [List.map_cons, List.map_nil] at F
  obtain ⟨l, ⟨k, p, w, h1, h2, h3, h4, h5⟩ | ⟨h1, h5⟩⟩ := F
  · refine ⟨l, .inl ⟨k, p, w, h1, h2, h3, h4, ?_⟩⟩
    simp [b_parting, hs, h5, toR]
  · refine ⟨l, .inr ⟨h1, ?_⟩⟩
    simp [b_parting, hs, h5, toR]

end Mo
namespace Mo
open Pm
theorem cell_at_ok (ns : List Int) (k : Int) (hk : 0 ≤ k) (s : Sto) : ∃ c, m_law_cell_at [.fro (ns.map Dx.int), .int k] s = .ok (.int c) s := by
  by_cases h : k < ns.length
  · obtain ⟨d, h1, h2⟩ := pyIx_mem (xs := ns.map Dx.int) hk (by simpa using h)
    obtain ⟨c, _, rfl⟩ := List.mem_map.mp h2
    exact ⟨c, by simp [m_law_cell_at, b_law_cell_at, h, h1]⟩
  · exact ⟨0, by simp [m_law_cell_at, b_law_cell_at, h]⟩

end Mo
namespace Mo
open Pm
theorem filter_empty {α : Type} (p : α → Bool) (xs : List α) : (xs.filter fun x => !p x).isEmpty = xs.all p := by
  induction xs with
  | nil => rfl
  | cons x xs ih => cases h : p x <;> simp [h, ih]
theorem filter_some {α : Type} (p : α → Bool) (xs : List α) : (!(xs.filter p).isEmpty) = xs.any p := by
  induction xs with
  | nil => rfl
  | cons x xs ih => cases h : p x <;> simp [h, ih]
theorem law_fits_ok (k p : Tx) (w : Int) : ∀ (d n b : Nat) (t : Tr) (s : Sto), d < n → t.Ok d b → q_law_fits n [t.dx, thingD k p w] s = .ok (.bl (t.holds k p w)) s
  | d, 0, _, _, _, h, _ => by omega
  | d, n + 1, b, t, s, h, ht => by
    rw [q_law_fits_s]
    have inT : ∀ (v : Tx) (ns : List Tx), inD false (.str v) (.tup (ns.map Dx.str)) s = .ok (.bl (decide (v ∈ ns))) s := fun v ns => by
      unfold inD
      simp only [asQ_tup, flat, flat_strs, any_strs, Bool.and_self, if_true]
      simp
    cases t with
    | any => simp [b_law_fits, Tr.dx, Tr.holds, thingD]
    | weight i => simp [b_law_fits, Tr.dx, Tr.holds, thingD, tx_inj]
    | kind ns => simp [-inD_tup, b_law_fits, Tr.dx, Tr.holds, thingD, tx_inj, inT]
    | place ns => simp [-inD_tup, b_law_fits, Tr.dx, Tr.holds, thingD, tx_inj, inT]
    | not t =>
      cases d with
      | zero => unfold Tr.Ok at ht; exact ht.elim
      | succ d =>
        unfold Tr.Ok at ht
        have ih := law_fits_ok k p w d n b t s (by omega) ht
        simp only [thingD] at ih
        simp [b_law_fits, Tr.dx, Tr.holds, thingD, tx_inj, ih]
    | both ts =>
      cases d with
      | zero => unfold Tr.Ok at ht; exact ht.elim
      | succ d =>
        unfold Tr.Ok at ht
        obtain ⟨h1, h2, c, h3, h4⟩ := ht
        have e1 := lcL_filter (g := hNm 2) (tt := t_law_fits_1 (q_law_fits n)) (te := eVar 2) (e := ⟨[some (.tup [.str (tx "both"), .tup (ts.map Tr.dx)]), some (thingD k p w), none], [], none⟩) (c := none) (all := ts.map Tr.dx) (s := s) (em := Tr.dx) (f := Tr.dx) (p := fun t => !t.holds k p w) trivial ts (fun t ht => ⟨_, rfl, by simp [t_law_fits_1, law_fits_ok k p w d n c t s (by omega) (h4 t ht)], fun _ => by simp⟩)
        have e2 := filter_empty (Tr.holds k p w) ts
        simp only [thingD] at e1
        simp [b_law_fits, Tr.dx, Tr.holds, thingD, tx_inj, dxL_map, allT_all, e1, show ts.length ≤ 1000000 from by omega]
        simpa using e2
    | either ts =>
      cases d with
      | zero => unfold Tr.Ok at ht; exact ht.elim
      | succ d =>
        unfold Tr.Ok at ht
        obtain ⟨h1, h2, c, h3, h4⟩ := ht
        have e1 := lcL_filter (g := hNm 2) (tt := t_law_fits_2 (q_law_fits n)) (te := eVar 2) (e := ⟨[some (.tup [.str (tx "either"), .tup (ts.map Tr.dx)]), some (thingD k p w), none], [], none⟩) (c := none) (all := ts.map Tr.dx) (s := s) (em := Tr.dx) (f := Tr.dx) (p := fun t => t.holds k p w) trivial ts (fun t ht => ⟨_, rfl, by simp [t_law_fits_2, law_fits_ok k p w d n c t s (by omega) (h4 t ht)], fun _ => by simp⟩)
        have e2 := filter_some (Tr.holds k p w) ts
        simp only [thingD] at e1
        simp [b_law_fits, Tr.dx, Tr.holds, thingD, tx_inj, dxL_map, anyT_any, e1, show ts.length ≤ 1000000 from by omega]
        simpa using e2

end Mo
namespace Mo
open Pm
theorem lcL_nil {g : MG} {tt : MT} {te : ME} {e : En} {c : Option Nat} {all : List Dx} {s : Sto} (st : stands c all s) : ∀ xs : List Dx, (∀ x ∈ xs, ∃ e1, g x e s = some e1 ∧ tt e1 s = .ok false s) → lcL g tt te e c all xs s = .ok [] s
  | [], _ => by simp [lcL, st]
  | x :: xs, h => by
    obtain ⟨e1, h1, h2⟩ := h x List.mem_cons_self
    have ih := lcL_nil (te := te) st xs fun y hy => h y (List.mem_cons_of_mem _ hy)
    simp [lcL, st, h1, h2, ih]
mutual
theorem holds_same {k k' p p' : Tx} {w : Int} : ∀ (t : Tr), (k = k' ∨ (k ∉ gk t ∧ k' ∉ gk t)) → (p = p' ∨ (p ∉ gp t ∧ p' ∉ gp t)) → t.holds k p w = t.holds k' p' w
  | .any, _, _ => rfl
  | .weight i, _, _ => rfl
  | .kind ns, h, _ => by
    simp only [Tr.holds]
    rcases h with h | ⟨h1, h2⟩
    · rw [h]
    · simp only [gk] at h1 h2
      simp [h1, h2]
  | .place ns, _, h => by
    simp only [Tr.holds]
    rcases h with h | ⟨h1, h2⟩
    · rw [h]
    · simp only [gp] at h1 h2
      simp [h1, h2]
  | .not t, h1, h2 => by simp only [Tr.holds]; rw [holds_same t (by simpa [gk] using h1) (by simpa [gp] using h2)]
  | .both ts, h1, h2 => by simp only [Tr.holds]; rw [all_same ts (by simpa [gk] using h1) (by simpa [gp] using h2)]
  | .either ts, h1, h2 => by simp only [Tr.holds]; rw [any_same ts (by simpa [gk] using h1) (by simpa [gp] using h2)]
theorem all_same {k k' p p' : Tx} {w : Int} : ∀ (ts : List Tr), (k = k' ∨ (k ∉ gkL ts ∧ k' ∉ gkL ts)) → (p = p' ∨ (p ∉ gpL ts ∧ p' ∉ gpL ts)) → allT k p w ts = allT k' p' w ts
  | [], _, _ => rfl
  | t :: ts, h1, h2 => by
    simp only [gkL, List.mem_append, not_or] at h1
    simp only [gpL, List.mem_append, not_or] at h2
    simp only [allT]
    rw [holds_same t (h1.imp id fun h => ⟨h.1.1, h.2.1⟩) (h2.imp id fun h => ⟨h.1.1, h.2.1⟩), all_same ts (h1.imp id fun h => ⟨h.1.2, h.2.2⟩) (h2.imp id fun h => ⟨h.1.2, h.2.2⟩)]
theorem any_same {k k' p p' : Tx} {w : Int} : ∀ (ts : List Tr), (k = k' ∨ (k ∉ gkL ts ∧ k' ∉ gkL ts)) → (p = p' ∨ (p ∉ gpL ts ∧ p' ∉ gpL ts)) → anyT k p w ts = anyT k' p' w ts
  | [], _, _ => rfl
  | t :: ts, h1, h2 => by
    simp only [gkL, List.mem_append, not_or] at h1
    simp only [gpL, List.mem_append, not_or] at h2
    simp only [anyT]
    rw [holds_same t (h1.imp id fun h => ⟨h.1.1, h.2.1⟩) (h2.imp id fun h => ⟨h.1.1, h.2.1⟩), any_same ts (h1.imp id fun h => ⟨h.1.2, h.2.2⟩) (h2.imp id fun h => ⟨h.1.2, h.2.2⟩)]
end
/-- what the program's list tells, told of the law's -/
theorem none_all {t u : Tr} (h : ∃ kb pb, kb ∉ gkL [t, u] ∧ pb ∉ gpL [t, u] ∧ ∀ k p w, (k ∈ gkL [t, u] ∨ k = kb) → (p ∈ gpL [t, u] ∨ p = pb) → (w = 0 ∨ w ∈ gwL [t, u]) → partF t u k p w = false) (x y : Tx) :
    ∀ d ∈ things (gkL [t, u] ++ [x]) (gpL [t, u] ++ [y]) (sortI (0 :: gwL [t, u])), ∃ k p w, d = thingD k p w ∧ partF t u k p w = false := by
  obtain ⟨kb, pb, h1, h2, h3⟩ := h
  intro d hd
  obtain ⟨k, p, w, hk, hp, hw, rfl⟩ := things_mem hd
  refine ⟨k, p, w, rfl, ?_⟩
  obtain ⟨k', hk1, hk2⟩ : ∃ k', (k' ∈ gkL [t, u] ∨ k' = kb) ∧ (k = k' ∨ (k ∉ gkL [t, u] ∧ k' ∉ gkL [t, u])) := by
    by_cases hm : k ∈ gkL [t, u]
    · exact ⟨k, .inl hm, .inl rfl⟩
    · exact ⟨kb, .inr rfl, .inr ⟨hm, h1⟩⟩
  obtain ⟨p', hp1, hp2⟩ : ∃ p', (p' ∈ gpL [t, u] ∨ p' = pb) ∧ (p = p' ∨ (p ∉ gpL [t, u] ∧ p' ∉ gpL [t, u])) := by
    by_cases hm : p ∈ gpL [t, u]
    · exact ⟨p, .inl hm, .inl rfl⟩
    · exact ⟨pb, .inr rfl, .inr ⟨hm, h2⟩⟩
  have hw' : w = 0 ∨ w ∈ gwL [t, u] := by simpa using mem_sortI.mp hw
  have f := h3 k' p' w hk1 hp1 hw'
  unfold partF at f ⊢
  simp only [gkL, gpL, List.mem_append, not_or, List.append_nil] at hk2 hp2
  rw [holds_same (k := k) (k' := k') (p := p) (p' := p') t (hk2.imp id fun h => ⟨h.1.1, h.2.1⟩) (hp2.imp id fun h => ⟨h.1.1, h.2.1⟩), holds_same (k := k) (k' := k') (p := p) (p' := p') u (hk2.imp id fun h => ⟨h.1.2, h.2.2⟩) (hp2.imp id fun h => ⟨h.1.2, h.2.2⟩)]
  exact f
theorem right_none {t u : Tr} {d b : Nat} (ht : t.Ok d b) (hu : u.Ok d b) (hd : d < 50) {L : List Dx} {s : Sto} (hl : L.length ≤ 1000000) (h : ∀ x ∈ L, ∃ k p w, x = thingD k p w ∧ partF t u k p w = false) : m_law_right [.non, t.dx, u.dx, .lst L] s = .ok (.bl true) s := by
  have m1 : m_law_fits = q_law_fits 50 := rfl
  have e1 := lcL_nil (g := hNm 4) (tt := t_law_right_1) (te := eVar 4) (e := ⟨[some .non, some t.dx, some u.dx, some (.lst L), none], [], none⟩) (c := none) (all := L) (s := s) trivial L (fun x hx => by
    obtain ⟨k, p, w, rfl, hf⟩ := h x hx
    refine ⟨_, rfl, ?_⟩
    have q1 := law_fits_ok k p w d 50 b t s hd ht
    have q2 := law_fits_ok k p w d 50 b u s hd hu
    simp only [thingD] at q1 q2 ⊢
    unfold partF at hf
    cases h1 : t.holds k p w <;> cases h2 : u.holds k p w <;> simp [h1, h2] at hf <;> simp [t_law_right_1, m1, q1, q2, h1, h2])
  simp [m_law_right, b_law_right, wD, e1, hl]
theorem right_some {t u : Tr} {d b : Nat} (ht : t.Ok d b) (hu : u.Ok d b) (hd : d < 50) {L : Dx} {s : Sto} {k p : Tx} {w : Int} (hk : nameB k = true) (hp : nameB p = true) (hw : 0 ≤ w) (h : partF t u k p w = true) : m_law_right [hapO k p w, t.dx, u.dx, L] s = .ok (.bl true) s := by
  have m1 : m_law_fits = q_law_fits 50 := rfl
  have e1 := is_name_ok (d := .str k) (s := s) rfl (Nat.le_trans (nameB_len hk).2.1 (by decide))
  have e2 := is_name_ok (d := .str p) (s := s) rfl (Nat.le_trans (nameB_len hp).2.1 (by decide))
  rw [show nameD (.str k) = true from hk] at e1
  rw [show nameD (.str p) = true from hp] at e2
  have q1 := law_fits_ok k p w d 50 b t s hd ht
  have q2 := law_fits_ok k p w d 50 b u s hd hu
  unfold partF at h
  rw [Bool.and_eq_true, Bool.not_eq_true'] at h
  rw [h.1] at q1
  rw [h.2] at q2
  simp only [thingD] at q1 q2
  simp [m_law_right, b_law_right, hapO, List.lookup, e1, e2, m1, q1, q2, show ¬ w < 0 from by omega]

end Mo
namespace Mo
open Pm
noncomputable def tailM : MS :=
  (sSeq (sAsg (eCall m_law_all (aCons (eLst false (aCons (eVar 1) (aCons (eVar 4) aNil))) aNil)) (hNm 5))
    (sSeq (sAsg (eCall m_law_made (aCons (eVar 1) aNil)) (hNm 6))
    (sSeq (sAsg (eCall m_law_made (aCons (eVar 4) aNil)) (hNm 7))
    (sSeq (sFor (wRng1 (aCons (eC (.int 2)) aNil)) (hNm 8) l_law_1)
    (sSeq (sAsg (eCall m_parting (aCons (eVar 6) (aCons (eVar 7) aNil))) (hNm 9))
    (sSeq (sIf (uV (eOp notND (eVar 9) (eC .non))) (sFor (wD (eLst false (aCons (eTup (aCons (eC (.str (tx "kind"))) (aCons (eUn (fldD "kind") (eVar 9)) aNil))) (aCons (eTup (aCons (eC (.str (tx "place"))) (aCons (eUn (fldD "place") (eVar 9)) aNil))) aNil)))) (hTup 2 (hCons (hNm 10) (hCons (hNm 11) hNil))) l_law_2) sNext)
    (sRet (eAnd (eOp isND (eCall m_parting (aCons (eVar 6) (aCons (eVar 6) aNil))) (eC .non)) (eOp isND (eCall m_parting (aCons (eVar 7) (aCons (eVar 7) aNil))) (eC .non))))))))))
theorem things_sub {KK KK' PP PP' : List Tx} {WW WW' : List Int} (h1 : ∀ k ∈ KK, k ∈ KK') (h2 : ∀ k ∈ PP, k ∈ PP') (h3 : ∀ k ∈ WW, k ∈ WW') {d : Dx} (h : d ∈ things KK PP WW) : d ∈ things KK' PP' WW' := by
  obtain ⟨k, p, w, a, b, c, rfl⟩ := things_mem h
  exact List.mem_flatMap.mpr ⟨k, h1 k a, List.mem_flatMap.mpr ⟨p, h2 p b, List.mem_map.mpr ⟨w, h3 w c, rfl⟩⟩⟩
/-- all of the law's things for these two, in whatever order -/
def Lth (L : List Dx) (t u : Tr) : Prop := L.length ≤ 1000000 ∧ ∃ x y, ∀ d ∈ L, d ∈ things (gkL [t, u] ++ [x]) (gpL [t, u] ++ [y]) (sortI (0 :: gwL [t, u]))
theorem Lth.symm {L : List Dx} {t u : Tr} (h : Lth L t u) : Lth L u t := by
  obtain ⟨h1, x, y, h2⟩ := h
  refine ⟨h1, x, y, fun d hd => things_sub (fun k hk => ?_) (fun k hk => ?_) (fun k hk => ?_) (h2 d hd)⟩
  · simp [gkL] at hk ⊢; rcases hk with h | h | h <;> simp [h]
  · simp [gpL] at hk ⊢; rcases hk with h | h | h <;> simp [h]
  · rw [mem_sortI] at hk ⊢; simp [gwL] at hk ⊢; rcases hk with h | h | h <;> simp [h]
/-- what parts them is right -/
theorem half_ok {t u : Tr} {d b : Nat} (ht : t.Ok d b) (hu : u.Ok d b) (hd : d ≤ 10) (hb : b ≤ 400) (s : Sto) (hs : s[0]? = some (.tbl 0)) :
    ∃ D l, m_parting [t.fitO, u.fitO] s = .ok D (s ++ l) ∧ (∀ L S, Lth L t u → m_law_right [D, t.dx, u.dx, .lst L] S = .ok (.bl true) S) ∧ (D = .non ∨ ∃ k p w, nameB k = true ∧ nameB p = true ∧ D = hapO k p w) := by
  obtain ⟨l, ⟨k, p, w, h1, h2, h3, h4, h5⟩ | ⟨h1, h5⟩⟩ := parting_ok ht hu hd hb s hs
  · exact ⟨_, l, h5, fun L S _ => right_some ht hu (by omega) h1 h2 h3 h4, .inr ⟨k, p, w, h1, h2, rfl⟩⟩
  · exact ⟨_, l, h5, fun L S ⟨hl, x, y, hL⟩ => right_none ht hu (by omega) hl fun d hd => none_all h1 x y d (hL d hd), .inl rfl⟩
theorem self_ok {t : Tr} {d b : Nat} (ht : t.Ok d b) (hd : d ≤ 10) (hb : b ≤ 400) (s : Sto) (hs : s[0]? = some (.tbl 0)) : ∃ l, m_parting [t.fitO, t.fitO] s = .ok .non (s ++ l) := by
  obtain ⟨l, ⟨k, p, w, h1, h2, h3, h4, h5⟩ | ⟨h1, h5⟩⟩ := parting_ok ht ht hd hb s hs
  · unfold partF at h4
    cases hq : t.holds k p w <;> simp [hq] at h4
  · exact ⟨l, h5⟩
theorem all_th {t u : Tr} {d b : Nat} (ht : t.Ok d b) (hu : u.Ok d b) (hd : d ≤ 10) (hb : b ≤ 100) (s : Sto) (h1 : (gk t).length + (gk u).length ≤ 85) (h2 : (gp t).length + (gp u).length ≤ 85) (h3 : (gw t).length + (gw u).length ≤ 85) :
    ∃ L, Lth L t u ∧ m_law_all [.lst [t.dx, u.dx]] s = .ok (.lst L) s := by
  obtain ⟨x, y, e⟩ := law_all_ok ht hu hd hb s h1 h2 h3
  refine ⟨_, ⟨?_, x, y, fun d hd => hd⟩, e⟩
  have hl : ∀ (KK PP : List Tx) (WW : List Int), (things KK PP WW).length = KK.length * (PP.length * WW.length) := by
    intro KK PP WW
    induction KK with
    | nil => simp [things]
    | cons k KK ih =>
      have : things (k :: KK) PP WW = (PP.flatMap fun p => WW.map fun w => thingD k p w) ++ things KK PP WW := rfl
      rw [this, List.length_append, ih, flat_len, List.length_cons, Nat.add_mul, Nat.one_mul]; omega
  rw [hl]
  have lw := len_sortR ltI (0 :: gwL [t, u])
  have a1 : (gkL [t, u] ++ [x]).length ≤ 86 := by simp [gkL]; omega
  have a2 : (gpL [t, u] ++ [y]).length ≤ 86 := by simp [gpL]; omega
  have a3 : (sortI (0 :: gwL [t, u])).length ≤ 86 := by
    have a4 : (0 :: gwL [t, u]).length ≤ 86 := by simp [gwL]; omega
    exact Nat.le_trans lw a4
  exact Nat.le_trans (Nat.mul_le_mul a1 (Nat.mul_le_mul a2 a3)) (by decide)
theorem at0_app {s l : Sto} (h : s[0]? = some (.tbl 0)) : (s ++ l)[0]? = some (.tbl 0) := by
  rw [List.getElem?_append_left (List.getElem?_eq_some_iff.mp h).1]; exact h
def LawP (r : R Dx) : Prop := ∃ s, r = .ok (.bl true) s
/-- a turn with the first one without what was told -/
theorem turn_ok {t u X : Tr} (ht : t.Ok 2 27) (hu : u.Ok 4 54) (hX : X.Ok 1 27) (n1 : (gk X).length ≤ 1) (n2 : (gp X).length ≤ 1) (n3 : (gw X).length ≤ 1) {word : String} {n : Tx} (hd : X.dx = .tup [.str (tx word), .tup [.str n]]) (s : Sto) (hs : s[0]? = some (.tbl 0)) (x0 x2 x3 x5 x6 x8 x9 x12 : Option Dx) :
    ∃ l x12', l_law_2 ⟨[x0, some t.dx, x2, x3, some u.dx, x5, x6, some u.fitO, x8, x9, some (.str (tx word)), some (.str n), x12], [], none⟩ s = .nx ⟨[x0, some t.dx, x2, x3, some u.dx, x5, x6, some u.fitO, x8, x9, some (.str (tx word)), some (.str n), x12'], [], none⟩ (s ++ l) := by
  obtain ⟨Y, hY⟩ : ∃ Y, Y = Tr.both [t, .not X] := ⟨_, rfl⟩
  have oY : Y.Ok 4 54 := by
    have : Y.Ok 3 54 := by
      rw [hY]
      unfold Tr.Ok
      have hn : (Tr.not X).Ok 2 27 := by unfold Tr.Ok; exact hX
      exact ⟨by simp, by simp, 27, by simp, by simp [ht, hn]⟩
    exact this.deep (by omega)
  have g1 := (gk_ok 2 50 27 t s (by omega) (by omega) ht).1
  have g2 := (gp_ok 2 50 27 t s (by omega) (by omega) ht).1
  have g3 := (gw_ok 2 50 27 t s (by omega) (by omega) ht).1
  have g4 := (gk_ok 4 50 54 u s (by omega) (by omega) hu).1
  have g5 := (gp_ok 4 50 54 u s (by omega) (by omega) hu).1
  have g6 := (gw_ok 4 50 54 u s (by omega) (by omega) hu).1
  have y1 : (gk Y).length ≤ 28 := by rw [hY]; simp [gk, gkL]; omega
  have y2 : (gp Y).length ≤ 28 := by rw [hY]; simp [gp, gpL]; omega
  have y3 : (gw Y).length ≤ 28 := by rw [hY]; simp [gw, gwL]; omega
  have m2 : m_law_made = q_law_made 50 := rfl
  have e0 := made_ok 4 50 54 Y s (by omega) (by omega) oY
  obtain ⟨D1, l1, f1, r1, _⟩ := half_ok oY hu (by omega) (by omega) s hs
  obtain ⟨L, hL, e1⟩ := all_th oY hu (by omega) (by omega) (s ++ l1) (by omega) (by omega) (by omega)
  have r1 := r1 L (s ++ l1) hL
  have dY : Y.dx = .tup [.str (tx "both"), .tup [t.dx, .tup [.str (tx "not"), .tup [.str (tx word), .tup [.str n]]]]] := by
    rw [hY]; simp [Tr.dx, dxL_map, hd]
  rw [dY] at e0 e1 r1
  generalize Y.fitO = FY at *
  refine ⟨l1, some (.tup [.str (tx "both"), .tup [t.dx, .tup [.str (tx "not"), .tup [.str (tx word), .tup [.str n]]]]]), ?_⟩
  simp [l_law_2, m2, e0, f1, e1, r1]
theorem tail_ok {t u : Tr} (ht : t.Ok 2 27) (hu : u.Ok 4 54) (s : Sto) (hs : s[0]? = some (.tbl 0)) (x0 x2 x3 : Option Dx) : LawP (toR (tailM ⟨[x0, some t.dx, x2, x3, some u.dx, none, none, none, none, none, none, none, none], [], none⟩ s)) := by
  have ht4 : t.Ok 4 54 := (ht.more (by omega)).deep (by omega)
  have g1 := (gk_ok 2 50 27 t s (by omega) (by omega) ht).1
  have g2 := (gp_ok 2 50 27 t s (by omega) (by omega) ht).1
  have g3 := (gw_ok 2 50 27 t s (by omega) (by omega) ht).1
  have g4 := (gk_ok 4 50 54 u s (by omega) (by omega) hu).1
  have g5 := (gp_ok 4 50 54 u s (by omega) (by omega) hu).1
  have g6 := (gw_ok 4 50 54 u s (by omega) (by omega) hu).1
  have m2 : m_law_made = q_law_made 50 := rfl
  obtain ⟨L, hL, e1⟩ := all_th ht4 hu (by omega) (by omega) s (by omega) (by omega) (by omega)
  have e2 := made_ok 4 50 54 t s (by omega) (by omega) ht4
  have e3 := made_ok 4 50 54 u s (by omega) (by omega) hu
  simp [tailM, e1, m2, e2, e3]
  refine forL_ok (c := none) (P := fun e S => (∃ l, S = s ++ l) ∧ ∃ x8, e = ⟨[x0, some t.dx, x2, x3, some u.dx, some (.lst L), some t.fitO, some u.fitO, x8, none, none, none, none], [], none⟩) (Z := fun r => LawP (toR (S.sq r _))) (fun _ _ _ => trivial) ?_ _ ?_ _ _ ⟨⟨[], by simp⟩, none, rfl⟩
  rotate_left
  · rintro x hx e S ⟨⟨l, rfl⟩, x8, rfl⟩
    refine ⟨_, rfl, ?_⟩
    obtain ⟨D1, l1, f1, r1, _⟩ := half_ok ht4 hu (by omega) (by omega) (s ++ l) (at0_app hs)
    obtain ⟨D2, l2, f2, r2, _⟩ := half_ok hu ht4 (by omega) (by omega) (s ++ l ++ l1) (at0_app (at0_app hs))
    have r1 := r1 L (s ++ l ++ l1) hL
    have r2 := r2 L (s ++ l ++ l1 ++ l2) hL.symm
    simp only [List.append_assoc] at f1 r1 f2 r2
    simp [l_law_1, f1, r1, f2, r2]
  · rintro e S ⟨⟨l, rfl⟩, x8, rfl⟩
    obtain ⟨D, l1, f1, _, hD⟩ := half_ok ht4 hu (by omega) (by omega) (s ++ l) (at0_app hs)
    have fin : ∀ (l2 : Sto), ∃ l3 l4, m_parting [t.fitO, t.fitO] (s ++ l2) = .ok .non (s ++ l2 ++ l3) ∧ m_parting [u.fitO, u.fitO] (s ++ l2 ++ l3) = .ok .non (s ++ l2 ++ l3 ++ l4) := fun l2 => by
      obtain ⟨l3, a1⟩ := self_ok ht4 (by omega) (by omega) (s ++ l2) (at0_app hs)
      obtain ⟨l4, a2⟩ := self_ok hu (by omega) (by omega) (s ++ l2 ++ l3) (at0_app (at0_app hs))
      exact ⟨l3, l4, a1, a2⟩
    rcases hD with rfl | ⟨k, p, w, hk, hp, rfl⟩
    · obtain ⟨l3, l4, a1, a2⟩ := fin (l ++ l1)
      simp only [List.append_assoc] at f1 a1 a2
      exact ⟨s ++ (l ++ (l1 ++ (l3 ++ l4))), by simp [f1, a1, a2, toR]⟩
    · have nm1 : ∀ n : Tx, nameB n = true → (Tr.kind [n]).Ok 1 27 := fun n h => by unfold Tr.Ok NmL; simp [h]
      have nm2 : ∀ n : Tx, nameB n = true → (Tr.place [n]).Ok 1 27 := fun n h => by unfold Tr.Ok NmL; simp [h]
      obtain ⟨l5, y12, b1⟩ := turn_ok ht hu (nm1 k hk) (by simp [gk]) (by simp [gp]) (by simp [gw]) (word := "kind") (n := k) (by simp [Tr.dx]) (s ++ l ++ l1) (at0_app (at0_app hs)) x0 x2 x3 (some (.lst L)) (some t.fitO) x8 (some (hapO k p w)) none
      obtain ⟨l6, z12, b2⟩ := turn_ok ht hu (nm2 p hp) (by simp [gk]) (by simp [gp]) (by simp [gw]) (word := "place") (n := p) (by simp [Tr.dx]) (s ++ l ++ l1 ++ l5) (at0_app (at0_app (at0_app hs))) x0 x2 x3 (some (.lst L)) (some t.fitO) x8 (some (hapO k p w)) y12
      obtain ⟨l3, l4, a1, a2⟩ := fin (l ++ (l1 ++ (l5 ++ l6)))
      simp only [List.append_assoc, hapO] at f1 a1 a2 b1 b2
      exact ⟨s ++ (l ++ (l1 ++ (l5 ++ (l6 ++ (l3 ++ l4))))), by simp [f1, wD, forL, b1, b2, a1, a2, toR, hapO, List.lookup]⟩
theorem b_law_eq : b_law = (sSeq (sAsg (eCall m_law_tree (aCons (eCall m_law_begin (aCons (eCall m_law_cell_at (aCons (eVar 0) (aCons (eC (.int 0)) aNil))) aNil)) (aCons (eC (.int 2)) (aCons (eC (.int 2)) aNil)))) (hNm 1))
    (sSeq (sAsg (eCall m_law_begin (aCons (eCall m_law_cell_at (aCons (eVar 0) (aCons (eC (.int 1)) aNil))) aNil)) (hNm 2))
    (sSeq (sAsg (eOp modD (eCall m_law_cell_at (aCons (eVar 0) (aCons (eC (.int 2)) aNil))) (eC (.int 6))) (hNm 3))
    (sSeq (sAsg (eCall m_law_tree (aCons (eVar 2) (aCons (eC (.int 2)) (aCons (eC (.int 2)) aNil)))) (hNm 4))
    (sSeq (sIf (uV (eOp eqD (eVar 3) (eC (.int 3)))) (sAsg (eVar 1) (hNm 4)) sNext)
    (sSeq (sIf (uV (eOp eqD (eVar 3) (eC (.int 4)))) (sAsg (eTup (aCons (eC (.str (tx "not"))) (aCons (eTup (aCons (eC (.str (tx "not"))) (aCons (eVar 1) aNil))) aNil))) (hNm 4)) sNext)
    (sSeq (sIf (uV (eOp eqD (eVar 3) (eC (.int 5)))) (sAsg (eTup (aCons (eOp ixD (eLst false (aCons (eC (.str (tx "both"))) (aCons (eC (.str (tx "either"))) aNil))) (eCall m_law_next (aCons (eVar 2) (aCons (eC (.int 2)) aNil)))) (aCons (eTup (aCons (eVar 1) (aCons (eCall m_law_leaf (aCons (eVar 2) (aCons (eC (.int 2)) aNil))) aNil))) aNil))) (hNm 4)) sNext)
    tailM))))))) := rfl
theorem plain (ns : List Int) (h : ns.length ≤ 63) : ∃ s, m_law [.fro (ns.map Dx.int)] [.tbl 0] = .ok (.bl true) s := by
  show LawP _
  refine mk_R rfl ?_
  have m1 : m_law_tree = q_law_tree 50 := rfl
  obtain ⟨c0, f0⟩ := cell_at_ok ns 0 (by omega) [.tbl 0]
  obtain ⟨z0, i0, f1⟩ := begin_ok [.tbl 0] c0
  obtain ⟨t0, z1, l1, i1, ht0, f2⟩ := tree_ok 2 (by omega) 2 50 (by omega) (by omega) [.tbl 0] [] i0
  obtain ⟨S1, hS1⟩ : ∃ S1 : Sto, S1 = [.tbl 0] ++ z1 :: ([] ++ l1) := ⟨_, rfl⟩
  have a0 : S1[0]? = some (.tbl 0) := by rw [hS1]; rfl
  rw [← hS1] at f2
  obtain ⟨c1, f3⟩ := cell_at_ok ns 1 (by omega) S1
  obtain ⟨z2, i2, f4⟩ := begin_ok S1 c1
  obtain ⟨c2, f5⟩ := cell_at_ok ns 2 (by omega) (S1 ++ [z2])
  obtain ⟨t1, z3, l2, i3, ht1, f6⟩ := tree_ok 2 (by omega) 2 50 (by omega) (by omega) S1 [] i2
  simp only [List.length_nil, List.length_cons, List.nil_append, List.cons_append, show ((2 : Nat) : Int) = 2 from rfl] at f1 f2 f6
  have up : ∀ {t : Tr}, t.Ok 2 27 → t.Ok 4 54 := fun h => (h.more (by omega)).deep (by omega)
  have b27 : most3 2 2 = 27 := rfl
  rw [b27] at ht0 ht1
  rw [b_law_eq]
  have T := fun (u : Tr) (hu : u.Ok 4 54) (S : Sto) (hs : S[0]? = some (.tbl 0)) => tail_ok ht0 hu S hs (some (.fro (ns.map Dx.int))) (some (.cell S1.length)) (some (.int (c2 % 6)))
  have r6 : c2 % 6 = 0 ∨ c2 % 6 = 1 ∨ c2 % 6 = 2 ∨ c2 % 6 = 3 ∨ c2 % 6 = 4 ∨ c2 % 6 = 5 := by omega
  by_cases w3 : c2 % 6 = 3
  · have := T t0 (up ht0) (S1 ++ z3 :: l2) (at0_app a0)
    simp [f0, f1, m1, f2, f3, f4, f5, f6, w3] at this ⊢
    exact this
  by_cases w4 : c2 % 6 = 4
  · have hn : (Tr.not (.not t0)).Ok 4 54 := by
      have : t0.Ok 2 54 := ht0.more (by omega)
      unfold Tr.Ok; unfold Tr.Ok; exact this
    have := T (.not (.not t0)) hn (S1 ++ z3 :: l2) (at0_app a0)
    simp [f0, f1, m1, f2, f3, f4, f5, f6, w4, Tr.dx] at this ⊢
    exact this
  by_cases w5 : c2 % 6 = 5
  · obtain ⟨v, z4, i4, va, vb, f7⟩ := nx S1 l2 i3 2 (by decide)
    obtain ⟨t2, z5, l3, i5, ht2, f8⟩ := leaf_ok S1 l2 i4 2 (by omega)
    have ht2 : t2.Ok 2 27 := (ht2.more (by decide)).deep (by omega)
    have hB : (Tr.both [t0, t2]).Ok 4 54 := by
      have : (Tr.both [t0, t2]).Ok 3 54 := by unfold Tr.Ok; exact ⟨by simp, by simp, 27, by simp, by simp [ht0, ht2]⟩
      exact this.deep (by omega)
    have hE : (Tr.either [t0, t2]).Ok 4 54 := by
      have : (Tr.either [t0, t2]).Ok 3 54 := by unfold Tr.Ok; exact ⟨by simp, by simp, 27, by simp, by simp [ht0, ht2]⟩
      exact this.deep (by omega)
    rcases (show v = 0 ∨ v = 1 by omega) with rfl | rfl
    · have := T (.both [t0, t2]) hB (S1 ++ z5 :: (l2 ++ l3)) (at0_app a0)
      simp [f0, f1, m1, f2, f3, f4, f5, f6, w5, f7, f8, Tr.dx, dxL_map] at this ⊢
      exact this
    · have := T (.either [t0, t2]) hE (S1 ++ z5 :: (l2 ++ l3)) (at0_app a0)
      simp [f0, f1, m1, f2, f3, f4, f5, f6, w5, f7, f8, Tr.dx, dxL_map] at this ⊢
      exact this
  · have := T t1 (up ht1) (S1 ++ z3 :: l2) (at0_app a0)
    simp [f0, f1, m1, f2, f3, f4, f5, f6, w3, w4, w5] at this ⊢
    exact this

end Mo
theorem Pr.plain (ns : List Int) (h : ns.length ≤ 63) : ∃ s, Mo.m_law [.fro (ns.map Pm.Dx.int)] [.tbl 0] = .ok (.bl true) s := Mo.plain ns h
namespace Pr
open PySem PySem.Spec PyProof.Rows L2 He Vs Pm Ps Mo
def top (i : Nat) : Stmt := PySem.Challenge.pw_bellsaway_k10_what_parts_two_fits.main.body.getD i (.Pass ⟨0, 0, 0, 0⟩)
abbrev s_law_next : Stmt := top 33
def d_law_next : He.DefD := ⟨("_law_next", none), "_law_next", "_law_next", defArgs s_law_next, defBody s_law_next, defScope s_law_next, [], []⟩
abbrev s_law_name : Stmt := top 34
def d_law_name : He.DefD := ⟨("_law_name", none), "_law_name", "_law_name", defArgs s_law_name, defBody s_law_name, defScope s_law_name, [], []⟩
abbrev s_law_leaf : Stmt := top 35
def d_law_leaf : He.DefD := ⟨("_law_leaf", none), "_law_leaf", "_law_leaf", defArgs s_law_leaf, defBody s_law_leaf, defScope s_law_leaf, [], []⟩
abbrev s_law_tree : Stmt := top 36
def d_law_tree : He.DefD := ⟨("_law_tree", none), "_law_tree", "_law_tree", defArgs s_law_tree, defBody s_law_tree, defScope s_law_tree, [], []⟩
abbrev s_law_begin : Stmt := top 32
def d_law_begin : He.DefD := ⟨("_law_begin", none), "_law_begin", "_law_begin", defArgs s_law_begin, defBody s_law_begin, defScope s_law_begin, [], []⟩
abbrev s_law_beside : Stmt := top 40
def d_law_beside : He.DefD := ⟨("_law_beside", none), "_law_beside", "_law_beside", defArgs s_law_beside, defBody s_law_beside, defScope s_law_beside, [], []⟩
abbrev s_law_gathered : Stmt := top 39
def d_law_gathered : He.DefD := ⟨("_law_gathered", none), "_law_gathered", "_law_gathered", defArgs s_law_gathered, defBody s_law_gathered, defScope s_law_gathered, [], []⟩
abbrev s_law_all : Stmt := top 41
def d_law_all : He.DefD := ⟨("_law_all", none), "_law_all", "_law_all", defArgs s_law_all, defBody s_law_all, defScope s_law_all, [], []⟩
abbrev s_Several_init : Stmt := inClass (top 23) 0
def d_Several_init : He.DefD := ⟨("Several", some "__init__"), "__init__", "Several.__init__", defArgs s_Several_init, defBody s_Several_init, defScope s_Several_init, [], []⟩
abbrev s_is_name : Stmt := top 9
def d_is_name : He.DefD := ⟨("is_name", none), "is_name", "is_name", defArgs s_is_name, defBody s_is_name, defScope s_is_name, [], []⟩
abbrev s_are_names : Stmt := top 10
def d_are_names : He.DefD := ⟨("are_names", none), "are_names", "are_names", defArgs s_are_names, defBody s_are_names, defScope s_are_names, [], []⟩
abbrev s_Named_init : Stmt := inClass (top 18) 0
def d_Named_init : He.DefD := ⟨("Named", some "__init__"), "__init__", "Named.__init__", defArgs s_Named_init, defBody s_Named_init, defScope s_Named_init, [], []⟩
abbrev s_is_whole : Stmt := top 5
def d_is_whole : He.DefD := ⟨("is_whole", none), "is_whole", "is_whole", defArgs s_is_whole, defBody s_is_whole, defScope s_is_whole, [], []⟩
abbrev s_is_weight : Stmt := top 11
def d_is_weight : He.DefD := ⟨("is_weight", none), "is_weight", "is_weight", defArgs s_is_weight, defBody s_is_weight, defScope s_is_weight, [], []⟩
abbrev s_Least_init : Stmt := inClass (top 21) 0
def d_Least_init : He.DefD := ⟨("Least", some "__init__"), "__init__", "Least.__init__", defArgs s_Least_init, defBody s_Least_init, defScope s_Least_init, [], []⟩
abbrev s_Not_init : Stmt := inClass (top 22) 0
def d_Not_init : He.DefD := ⟨("Not", some "__init__"), "__init__", "Not.__init__", defArgs s_Not_init, defBody s_Not_init, defScope s_Not_init, [], []⟩
abbrev s_law_made : Stmt := top 37
def d_law_made : He.DefD := ⟨("_law_made", none), "_law_made", "_law_made", defArgs s_law_made, defBody s_law_made, defScope s_law_made, [], []⟩
abbrev s_word_of : Stmt := top 13
def d_word_of : He.DefD := ⟨("word_of", none), "word_of", "word_of", defArgs s_word_of, defBody s_word_of, defScope s_word_of, [], []⟩
abbrev s_name_beside : Stmt := top 14
def d_name_beside : He.DefD := ⟨("name_beside", none), "name_beside", "name_beside", defArgs s_name_beside, defBody s_name_beside, defScope s_name_beside, [], []⟩
abbrev s_with_one_more : Stmt := top 27
def d_with_one_more : He.DefD := ⟨("with_one_more", none), "with_one_more", "with_one_more", defArgs s_with_one_more, defBody s_with_one_more, defScope s_with_one_more, [], []⟩
abbrev s_Turns_init : Stmt := inClass (top 26) 0
def d_Turns_init : He.DefD := ⟨("Turns", some "__init__"), "__init__", "Turns.__init__", defArgs s_Turns_init, defBody s_Turns_init, defScope s_Turns_init, [], []⟩
abbrev s_Happening_init : Stmt := inClass (top 12) 0
def d_Happening_init : He.DefD := ⟨("Happening", some "__init__"), "__init__", "Happening.__init__", defArgs s_Happening_init, defBody s_Happening_init, defScope s_Happening_init, [], []⟩
abbrev s_Turns_look_at : Stmt := inClass (top 26) 1
def d_Turns_look_at : He.DefD := ⟨("Turns", some "look_at"), "look_at", "Turns.look_at", defArgs s_Turns_look_at, defBody s_Turns_look_at, defScope s_Turns_look_at, [], []⟩
abbrev s_Several_within : Stmt := inClass (top 23) 1
def d_Several_within : He.DefD := ⟨("Several", some "within"), "within", "Several.within", defArgs s_Several_within, defBody s_Several_within, defScope s_Several_within, [], []⟩
abbrev s_Fit_within : Stmt := inClass (top 16) 1
def d_Fit_within : He.DefD := ⟨("Fit", some "within"), "within", "Fit.within", defArgs s_Fit_within, defBody s_Fit_within, defScope s_Fit_within, [], []⟩
abbrev s_Not_within : Stmt := inClass (top 22) 2
def d_Not_within : He.DefD := ⟨("Not", some "within"), "within", "Not.within", defArgs s_Not_within, defBody s_Not_within, defScope s_Not_within, [], []⟩
abbrev s_Turns_look_through : Stmt := inClass (top 26) 2
def d_Turns_look_through : He.DefD := ⟨("Turns", some "look_through"), "look_through", "Turns.look_through", defArgs s_Turns_look_through, defBody s_Turns_look_through, defScope s_Turns_look_through, [], []⟩
abbrev s_found_where : Stmt := top 28
def d_found_where : He.DefD := ⟨("found_where", none), "found_where", "found_where", defArgs s_found_where, defBody s_found_where, defScope s_found_where, [], []⟩
abbrev s_Any_fits_it : Stmt := inClass (top 17) 0
def d_Any_fits_it : He.DefD := ⟨("Any", some "fits_it"), "fits_it", "Any.fits_it", defArgs s_Any_fits_it, defBody s_Any_fits_it, defScope s_Any_fits_it, [], []⟩
abbrev s_Kind_fits_it : Stmt := inClass (top 19) 0
def d_Kind_fits_it : He.DefD := ⟨("Kind", some "fits_it"), "fits_it", "Kind.fits_it", defArgs s_Kind_fits_it, defBody s_Kind_fits_it, defScope s_Kind_fits_it, [], []⟩
abbrev s_Place_fits_it : Stmt := inClass (top 20) 0
def d_Place_fits_it : He.DefD := ⟨("Place", some "fits_it"), "fits_it", "Place.fits_it", defArgs s_Place_fits_it, defBody s_Place_fits_it, defScope s_Place_fits_it, [], []⟩
abbrev s_Least_fits_it : Stmt := inClass (top 21) 1
def d_Least_fits_it : He.DefD := ⟨("Least", some "fits_it"), "fits_it", "Least.fits_it", defArgs s_Least_fits_it, defBody s_Least_fits_it, defScope s_Least_fits_it, [], []⟩
abbrev s_Both_fits_it : Stmt := inClass (top 24) 0
def d_Both_fits_it : He.DefD := ⟨("Both", some "fits_it"), "fits_it", "Both.fits_it", defArgs s_Both_fits_it, defBody s_Both_fits_it, defScope s_Both_fits_it, [], []⟩
abbrev s_Either_fits_it : Stmt := inClass (top 25) 0
def d_Either_fits_it : He.DefD := ⟨("Either", some "fits_it"), "fits_it", "Either.fits_it", defArgs s_Either_fits_it, defBody s_Either_fits_it, defScope s_Either_fits_it, [], []⟩
abbrev s_Not_fits_it : Stmt := inClass (top 22) 1
def d_Not_fits_it : He.DefD := ⟨("Not", some "fits_it"), "fits_it", "Not.fits_it", defArgs s_Not_fits_it, defBody s_Not_fits_it, defScope s_Not_fits_it, [], []⟩
abbrev s_parting : Stmt := top 29
def d_parting : He.DefD := ⟨("parting", none), "parting", "parting", defArgs s_parting, defBody s_parting, defScope s_parting, [], []⟩
abbrev s_law_cell_at : Stmt := top 31
def d_law_cell_at : He.DefD := ⟨("_law_cell_at", none), "_law_cell_at", "_law_cell_at", defArgs s_law_cell_at, defBody s_law_cell_at, defScope s_law_cell_at, [], []⟩
abbrev s_law_fits : Stmt := top 38
def d_law_fits : He.DefD := ⟨("_law_fits", none), "_law_fits", "_law_fits", defArgs s_law_fits, defBody s_law_fits, defScope s_law_fits, [], []⟩
abbrev s_law_right : Stmt := top 42
def d_law_right : He.DefD := ⟨("_law_right", none), "_law_right", "_law_right", defArgs s_law_right, defBody s_law_right, defScope s_law_right, [], []⟩
abbrev s_law : Stmt := top 43
def d_law : He.DefD := ⟨("law", none), "law", "law", defArgs s_law, defBody s_law, defScope s_law, [], []⟩
def tf : List He.Defn := [d_parting.at_]
class TbF (K : PySem.W.Frag) (mg : Str → Option Value) (base : Heap) : Prop where
  h : ∀ p ∈ tf, LamX.TabB base mg (He.cT K p).1 (He.cT K p).2
def fn : List He.DefD := [d_law_next, d_law_name, d_law_leaf, d_law_tree, d_law_begin, d_law_beside, d_law_gathered, d_law_all, d_Several_init, d_is_name, d_are_names, d_Named_init, d_is_whole, d_is_weight, d_Least_init, d_Not_init, d_law_made, d_word_of, d_name_beside, d_with_one_more, d_Turns_init, d_Happening_init, d_Turns_look_at, d_Several_within, d_Fit_within, d_Not_within, d_Turns_look_through, d_found_where, d_Any_fits_it, d_Kind_fits_it, d_Place_fits_it, d_Least_fits_it, d_Both_fits_it, d_Either_fits_it, d_Not_fits_it, d_parting, d_law_cell_at, d_law_fits, d_law_right, d_law]
def fa : List He.Fa := [.glo "_law_next", .free "len", .free "range", .glo "_law_name", .free "tuple", .glo "_law_leaf", .glo "_law_tree", .free "int", .glo "_law_gathered", .free "list", .glo "_law_beside", .free "set", .free "sorted", .glo "Fit", .glo "NoFit", .free "all", .free "isinstance", .exc "NoFit", .free "str", .int "MOST_LETTERS" 8, .str "LETTERS" "abcdefghijklmnopqrstuvwxyz", .glo "is_name", .glo "are_names", .free "bool", .glo "is_whole", .glo "is_weight", .glo "Any", .glo "Both", .glo "Either", .glo "Kind", .glo "Least", .glo "Not", .glo "Place", .glo "_law_made", .mkr "Least", .mkr "Not", .glo "word_of", .glo "name_beside", .glo "NoHappening", .exc "NoHappening", .meth "Not" "within", .meth "Turns" "look_at", .glo "Happening", .glo "Turns", .glo "with_one_more", .mkr "Happening", .mkr "Turns", .meth "Turns" "look_through", .meth "Any" "fits_it", .meth "Both" "fits_it", .meth "Either" "fits_it", .meth "Kind" "fits_it", .meth "Least" "fits_it", .meth "Not" "fits_it", .meth "Place" "fits_it", .free "any", .glo "found_where", .glo "_law_fits", .glo "_law_all", .glo "_law_begin", .glo "_law_cell_at", .glo "_law_right", .glo "parting", .glo "law"]
def xs : List (PySem.W.Frag → Bool) := [hcB, xcB, (fun K => mk0B K (ga K "Any")), (fun K => mkB K (ga K "Both") (ma K (ga K "Several") "__init__")), (fun K => mkB K (ga K "Either") (ma K (ga K "Several") "__init__")), (fun K => mkB K (ga K "Kind") (ma K (ga K "Named") "__init__")), (fun K => mkB K (ga K "Place") (ma K (ga K "Named") "__init__")), (fun K => methB K (ga K "Any") "within" (ma K (ga K "Fit") "within")), (fun K => methB K (ga K "Both") "within" (ma K (ga K "Several") "within")), (fun K => methB K (ga K "Either") "within" (ma K (ga K "Several") "within")), (fun K => methB K (ga K "Kind") "within" (ma K (ga K "Fit") "within")), (fun K => methB K (ga K "Least") "within" (ma K (ga K "Fit") "within")), (fun K => methB K (ga K "Place") "within" (ma K (ga K "Fit") "within"))]
/-! ### what the head tells -/
abbrev AlM : Type := AlD × Bool
/-! The collector: addresses and bits are forced (frNat), for the kernel reckons quickly only with numbers in which no variable stands (asD's eraseDups took 4 GB, a lazy bit set as much once there were many objects). -/
def refsK (g : Addr → Option Obj) (a : Addr) : List Addr := match g a with
  | some o => refsD o
  | none => []
/-- those that are new, told as numbers that the kernel reckons with (m: the bits of the known ones) -/
def levK {β : Type} : List Addr → Nat → List Addr → (Nat → List Addr → β) → β
  | [], m, acc, k => HandSHeadRun.frNat m fun m => k m acc
  | a :: r, m, acc, k => HandSHeadRun.frNat a fun a => HandSHeadRun.frNat m fun m => match Nat.beq (Nat.land (Nat.shiftRight m a) 1) 1 with
    | true => levK r m acc k
    | false => levK r (Nat.lor m (Nat.shiftLeft 1 a)) (a :: acc) k
def rowK {β : Type} (g : Addr → Option Obj) : List Addr → Nat → List Addr → (Nat → List Addr → β) → β
  | [], m, acc, k => k m acc
  | a :: r, m, acc, k => levK (refsK g a) m acc fun m acc => rowK g r m acc k
/-- the objects, the nearest first -/
def takK {β : Type} (g : Addr → Option Obj) : List Addr → PySem.W.Frag → (PySem.W.Frag → β) → β
  | [], K, k => k K
  | a :: r, K, k => match g a with
    | some o => (match He.emptyTab o with
      | true => takK g r K k
      | false => takK g r ((a, o) :: K) k)
    | none => takK g r K k
def asK {β : Type} (g : Addr → Option Obj) : Nat → List Addr → Nat → List Addr → (List Addr → β) → β
  | 0, L, _, all, k => k (L ++ all)
  | n + 1, L, m, all, k => rowK g L m [] fun m new => asK g n new m (L ++ all) k
def frK {β : Type} (n : Nat) (g : Addr → Option Obj) (k : PySem.W.Frag → β) : β := asK g n [mainGlobals] (Nat.lor (Nat.shiftLeft 1 mainGlobals) (Nat.shiftLeft 1 cStatics)) [cStatics] fun all => takK g all [] k
theorem levK_eq : ∀ (r : List Addr) (m : Nat) (acc : List Addr), ∃ m' acc', ∀ (β : Type) (k : Nat → List Addr → β), levK r m acc k = k m' acc'
  | [], m, acc => ⟨m, acc, fun β k => by unfold levK; rw [HandSHeadRun.frNat_eq]⟩
  | a :: r, m, acc => by
    cases hb : Nat.beq (Nat.land (Nat.shiftRight m a) 1) 1 with
    | true =>
      obtain ⟨m', acc', h⟩ := levK_eq r m acc
      refine ⟨m', acc', fun β k => ?_⟩
      unfold levK
      rw [HandSHeadRun.frNat_eq, HandSHeadRun.frNat_eq, hb]
      exact h β k
    | false =>
      obtain ⟨m', acc', h⟩ := levK_eq r (Nat.lor m (Nat.shiftLeft 1 a)) (a :: acc)
      refine ⟨m', acc', fun β k => ?_⟩
      unfold levK
      rw [HandSHeadRun.frNat_eq, HandSHeadRun.frNat_eq, hb]
      exact h β k
theorem rowK_eq (g : Addr → Option Obj) : ∀ (r : List Addr) (m : Nat) (acc : List Addr), ∃ m' acc', ∀ (β : Type) (k : Nat → List Addr → β), rowK g r m acc k = k m' acc'
  | [], m, acc => ⟨m, acc, fun _ _ => rfl⟩
  | a :: r, m, acc => by
    obtain ⟨m1, acc1, e⟩ := levK_eq (refsK g a) m acc
    obtain ⟨m2, acc2, e2⟩ := rowK_eq g r m1 acc1
    refine ⟨m2, acc2, fun β k => ?_⟩
    unfold rowK
    rw [e]
    exact e2 β k
theorem takK_eq (g : Addr → Option Obj) : ∀ (r : List Addr) (K : PySem.W.Frag), (∀ a o, K.lookup a = some o → g a = some o ∧ He.emptyTab o = false) → ∃ K' : PySem.W.Frag, (∀ a o, K'.lookup a = some o → g a = some o ∧ He.emptyTab o = false) ∧ ∀ (β : Type) (k : PySem.W.Frag → β), takK g r K k = k K'
  | [], K, h => ⟨K, h, fun _ _ => rfl⟩
  | a :: r, K, h => by
    cases hg : g a with
    | none =>
      obtain ⟨K', h1, h2⟩ := takK_eq g r K h
      refine ⟨K', h1, fun β k => ?_⟩
      unfold takK
      rw [hg]
      exact h2 β k
    | some o =>
      cases ht : He.emptyTab o with
      | true =>
        obtain ⟨K', h1, h2⟩ := takK_eq g r K h
        refine ⟨K', h1, fun β k => ?_⟩
        unfold takK
        rw [hg]
        dsimp only
        rw [ht]
        exact h2 β k
      | false =>
        obtain ⟨K', h1, h2⟩ := takK_eq g r ((a, o) :: K) fun b p e => by
          rw [List.lookup_cons] at e
          cases hb : b == a with
          | true =>
            rw [hb] at e
            cases e
            rw [eq_of_beq hb]
            exact ⟨hg, ht⟩
          | false =>
            rw [hb] at e
            exact h b p e
        refine ⟨K', h1, fun β k => ?_⟩
        unfold takK
        rw [hg]
        dsimp only
        rw [ht]
        exact h2 β k
theorem asK_eq (g : Addr → Option Obj) : ∀ (n : Nat) (L : List Addr) (m : Nat) (all : List Addr), ∃ L', ∀ (β : Type) (k : List Addr → β), asK g n L m all k = k L'
  | 0, L, _, all => ⟨_, fun _ _ => rfl⟩
  | n + 1, L, m, all => by
    obtain ⟨m1, new, e⟩ := rowK_eq g L m []
    obtain ⟨L', e2⟩ := asK_eq g n new m1 (L ++ all)
    refine ⟨L', fun β k => ?_⟩
    unfold asK
    rw [e]
    exact e2 β k
theorem frK_eq (n : Nat) (g : Addr → Option Obj) : ∃ K : PySem.W.Frag, (∀ a o, K.lookup a = some o → g a = some o ∧ He.emptyTab o = false) ∧ ∀ (β : Type) (k : PySem.W.Frag → β), frK n g k = k K := by
  obtain ⟨L, e⟩ := asK_eq g n [mainGlobals] (Nat.lor (Nat.shiftLeft 1 mainGlobals) (Nat.shiftLeft 1 cStatics)) [cStatics]
  obtain ⟨K, h1, h2⟩ := takK_eq g L [] fun _ _ h => by cases h
  refine ⟨K, h1, fun β k => ?_⟩
  unfold frK
  rw [e]
  exact h2 β k
/-- the names' part of the heap, and the classes' statics -/
def obsM (n : Nat) (g : Addr → Option Obj) : AlM := frK n g fun K => (obsD fa fn K, (xs.all fun f => f K) && He.tabsB g tf K)
/-- the makers' tables stand, empty, out of K -/
def TabsE (K : PySem.W.Frag) (h : Heap) : Prop := ∀ p ∈ tf, PySem.W.codeHdIn K (He.cT K p).1 (He.cT K p).2 = true ∧ K.lookup (He.cT K p).2 = none ∧ h.get? (He.cT K p).2 = some { cls := .none, data := .fields #[] }
theorem tabsE_of {K : PySem.W.Frag} {h : Heap} (k : ∀ a o, K.lookup a = some o → h.get? a = some o ∧ He.emptyTab o = false) (e : He.tabsB h.get? tf K = true) : TabsE K h := fun p hp => by
  obtain ⟨h1, h2⟩ := He.ba (List.all_eq_true.mp e p hp)
  cases q : h.get? (He.cT K p).2 with
  | none => rw [q] at h2; cases h2
  | some o =>
    rw [q] at h2
    refine ⟨h1, ?_, by rw [He.emptyTab_eq h2]⟩
    cases z : K.lookup (He.cT K p).2 with
    | none => rfl
    | some u =>
      obtain ⟨a1, a2⟩ := k _ _ z
      rw [q] at a1
      cases a1
      rw [show He.emptyTab o = true from h2] at a2
      cases a2
def hookM (n : Nat) : PySem.W.Hook where
  α := AlM
  obs := fun s => obsM n s.heap.get?
  val := fun _ => (valD fn, true)
  says := fun _ h => ∃ K : PySem.W.Frag, K.In h ∧ (SaysD fa fn K ∧ (xs.all fun f => f K) = true) ∧ TabsE K h
  of := fun _ s e => by
    obtain ⟨K, h, k⟩ := frK_eq n s.heap.get?
    have e := (k _ fun K => (obsD fa fn K, (xs.all fun f => f K) && He.tabsB s.heap.get? tf K)).symm.trans e
    obtain ⟨e1, e2⟩ := He.ba (congrArg (fun z : AlM => z.2) e)
    exact ⟨K, fun a o q => (h a o q).1, ⟨congrArg (fun z : AlM => z.1) e, e1⟩, tabsE_of h e2⟩
  keeps := fun _ _ _ ⟨K, hK, c, t⟩ k => ⟨K, PySem.W.Frag.In.keeps hK k, c, fun p hp => ⟨(t p hp).1, (t p hp).2.1, k _ _ (t p hp).2.2⟩⟩
structure Env (K : PySem.W.Frag) (mg : Str → Option Value) : Prop where
  c : SaysD fa fn K
  g : ∃ h : Heap, K.In h ∧ h.Ns mainGlobals mg
  xa : (xs.all fun f => f K) = true
theorem Env.glo {K : PySem.W.Frag} {mg : Str → Option Value} (Z : Env K mg) (i : Nat) {x : Str} (h : fa[i]? = some (.glo x)) : mg x = some (.ref (ga K x)) := let ⟨_, X, G⟩ := Z.g; glo_ok X G (Z.c.fact i h)
theorem Env.free {K : PySem.W.Frag} {mg : Str → Option Value} (Z : Env K mg) (i : Nat) {x : Str} (h : fa[i]? = some (.free x)) : mg x = none := let ⟨_, X, G⟩ := Z.g; free_ok X G (Z.c.fact i h)
theorem Env.int {K : PySem.W.Frag} {mg : Str → Option Value} (Z : Env K mg) (j : Nat) {x : Str} {i : Int} (h : fa[j]? = some (.int x i)) : ∃ t, mg x = some (.int i t) := let ⟨_, X, G⟩ := Z.g; int_ok X G (Z.c.fact j h)
theorem Env.str {K : PySem.W.Frag} {mg : Str → Option Value} (Z : Env K mg) (j : Nat) {x z : Str} (h : fa[j]? = some (.str x z)) : ∃ t, mg x = some (.str z t) := let ⟨_, X, G⟩ := Z.g; str_ok X G (Z.c.fact j h)
theorem Env.x {K : PySem.W.Frag} {mg : Str → Option Value} (Z : Env K mg) (i : Nat) {f : PySem.W.Frag → Bool} (h : xs[i]? = some f) : f K = true := List.all_eq_true.mp Z.xa f (List.mem_of_getElem? h)

def sp_law (K : PySem.W.Frag) : Sp := fun vs H Q _ => ∃ (a : Addr) (ns : List Int), vs = [.ref a] ∧ SqL K H a (ns.map V.int) ∧ ns.length ≤ 63 ∧ (∀ p ∈ tf, H (He.cT K p).2 = some (.tbl #[])) ∧ ∀ H', Q (.bl true) H'
theorem sqL_hid {K : PySem.W.Frag} {H : Hp} {a T : Addr} {xs : List V} {ps : Array Value} (h : SqL K H a xs) (t : H T = some (.tbl ps)) : SqL K (hid [T] H) a xs := by
  have ne : ∀ o, H a = some o → (∀ ps, o ≠ .tbl ps) → hid [T] H a = some o := fun o e n => by
    rw [hid_out]
    · exact e
    · intro z
      rw [List.mem_singleton.mp z, t] at e
      cases e
      exact n ps rfl
  rcases h with (h | ⟨o, h⟩) | h
  · exact .inl (.inl (ne _ h fun _ z => by cases z))
  · exact .inl (.inr ⟨o, ne _ h fun _ z => by cases z⟩)
  · exact .inr h
theorem run_law {K : PySem.W.Frag} {vs : List V} {H : Hp} {Q : VK} {E : XK} {N : List Str} {n : Nat} {b : MS} {bk ct : L2.St → Hp → Prop} (hN : N.length = n) (h : sp_law K vs H Q E) (pl : ∀ ns : List Int, ns.length ≤ 63 → ∃ s, mkF 1 n b [.fro (ns.map Dx.int)] [.tbl 0] = .ok (.bl true) s) :
    cS K p0 Wn b (Ends.mk (fun _ H' => Q .non H') Q bk ct) (L2.start N vs) H := by
  obtain ⟨a, ns, rfl, h1, h2, ht, h3⟩ := h
  obtain ⟨s, hs⟩ := pl ns h2
  have hT : H (tabA K 0) = some (.tbl #[]) := ht _ (List.mem_cons_self (l := tf.drop 1))
  have l : RvL K [tabA K 0] ((Wd.mk [tabA K 0] []).G H) [.ref a] [.fro (ns.map Dx.int)] := .cons (.fro (sqL_hid h1 hT) RvL.ints) .nil
  have R : Rel K ⟨[tabA K 0], []⟩ H [.tbl 0] := by
    refine ⟨by simp, (fun a ha => by cases ha), rfl, fun m c hc => ?_, fun m k hm => ?_⟩
    · cases m with
      | zero =>
        cases hc
        exact ⟨_, _, rfl, hT, .tbl True.intro fun pos cv z => by cases z⟩
      | succ m => simp at hc
    · cases m with
      | zero => cases hm; rfl
      | succ m => simp at hm
  refine ⟨⟨[tabA K 0], []⟩, ⟨env0 n [.fro (ns.map Dx.int)], [], none⟩, [.tbl 0], R, env_start hN l, ?_⟩
  unfold mkF at hs
  rw [if_pos (show [Dx.fro (ns.map Dx.int)].length = 1 from rfl)] at hs
  cases hr : b ⟨env0 n [.fro (ns.map Dx.int)], [], none⟩ [.tbl 0] with
  | nx e1 s1 => rw [hr] at hs; cases hs
  | rt v s1 =>
    rw [hr] at hs
    cases hs
    exact fun w' H' v x R' r' => by cases r'; exact h3 H'
  | exc C fs e1 s1 => rw [hr] at hs; cases hs
  | bk e1 s1 => rw [hr] at hs; cases hs
  | ct e1 s1 => rw [hr] at hs; cases hs
  | stuck => rw [hr] at hs; cases hs
section
variable {P : Program} {w : World} {K : PySem.W.Frag} {mg : Str → Option Value} {base : Heap} [tbf : TbF K mg base]
theorem sc_law_next : FnScope ["_law_state", "_law_base", "_law_found", "_law_number"] ["_law_state", "_law_base"] (defScope s_law_next) := ⟨rfl, rfl, rfl, by decide +kernel, rfl, by decide +kernel, by decide +kernel⟩
theorem okA_law_next (Z : Env K mg) {fd : FuncData} (F : FunD K d_law_next.name d_law_next.qual d_law_next.params d_law_next.body d_law_next.scope (d_law_next.dvs K) (d_law_next.kws K) (fAd K d_law_next.at_) fd) : FnOk P w K mg base (L2.CX P w) 1 (ga K "_law_next") fd ["_law_state", "_law_base"] (spM K m_law_next) := by
  have hc : Hc K := Z.x 0 (f := hcB) rfl
  have xc : Xc K := Z.x 1 (f := xcB) rfl
  refine F.ok (CX := (L2.CX P w)) sc_law_next (fun vs H Q E h => len_M h) (fun cdv A outer s H vs Q E hr h => ⟨cS K p0 (wE E) b_law_next, ?_, run_M rfl h⟩)
  exact (imSs i_seq (pss_cons (imS i_ifS (ps_if (qt_cmp om_gt (qe_ix (imE i_var (pv 0)) (imE i_int pe_int) (fun _ _ => rfl)) (imE i_int pe_int) (nomark _)) (imSs i_seq (pss_cons (imS (i_asgN ⟨.inl rfl, .inl ⟨rfl, rfl⟩⟩ (fun _ _ _ h => h)) (ps_set (i := 2) sc_law_next.nd rfl (Or.inl rfl) (qe_op om_mod (qe_ix (imE i_var (pv 0)) (imE i_int pe_int) (fun _ _ => rfl)) (imE i_var (pv 1)))))
    (imSs i_seq (pss_cons (imS i_put (ps_asg (qe_op om_div (qe_ix (imE i_var (pv 0)) (imE i_int pe_int) (fun _ _ => rfl)) (imE i_var (pv 1))) (pg_sub (imE i_var (pv 0)) (imE i_int pe_int) set_list)))
    (pss_one (imS i_ret (ps_ret (imE i_var (pv 2))))))))) (imSs i_next pss_nil)))
    (imSs i_seq (pss_cons (imS i_put (ps_asg (qe_op om_add (qe_ix (imE i_var (pv 0)) (imE i_int pe_int) (fun _ _ => rfl)) (imE i_int pe_int)) (pg_sub (imE i_var (pv 0)) (imE i_int pe_int) set_list)))
    (imSs i_seq (pss_cons (imS (i_asgN ⟨.inl rfl, .inl ⟨rfl, rfl⟩⟩ (fun _ _ _ h => h)) (ps_set (i := 3) sc_law_next.nd rfl (Or.inl rfl) (qe_op om_mod (qe_op om_mul (qe_op om_add (qe_op om_add (qe_ix (imE i_var (pv 0)) (imE i_int pe_int) (fun _ _ => rfl)) (qe_op om_mul (imE i_int pe_int) (qe_ix (imE i_var (pv 0)) (imE i_int pe_int) (fun _ _ => rfl)))) (imE i_int pe_int)) (imE i_int pe_int)) (imE i_int pe_int))))
    (imSs i_seq (pss_cons (imS (i_asgN ⟨.inl rfl, .inl ⟨rfl, rfl⟩⟩ (fun _ _ _ h => h)) (ps_set (i := 3) sc_law_next.nd rfl (Or.inl rfl) (qe_op om_mod (qe_op om_mul (imE i_var (pv 3)) (qe_op om_add (qe_op om_div (imE i_var (pv 3)) (imE i_int pe_int)) (imE i_int pe_int))) (imE i_int pe_int))))
    (imSs i_seq (pss_cons (imS (i_asgN ⟨.inl rfl, .inl ⟨rfl, rfl⟩⟩ (fun _ _ _ h => h)) (ps_set (i := 3) sc_law_next.nd rfl (Or.inl rfl) (qe_op om_mod (qe_op om_mul (imE i_var (pv 3)) (qe_op om_add (qe_op om_div (imE i_var (pv 3)) (imE i_int pe_int)) (imE i_int pe_int))) (imE i_int pe_int))))
    (pss_one (imS i_ret (ps_ret (qe_op om_mod (qe_op om_div (imE i_var (pv 3)) (imE i_int pe_int)) (imE i_var (pv 1))))))))))))))))
theorem ok_law_next (Z : Env K mg) : ∃ fd, FnOk P w K mg base (L2.CX P w) 1 (ga K "_law_next") fd ["_law_state", "_law_base"] (spM K m_law_next) ∧ Binds K fd ["_law_state", "_law_base"] [] ∧ PySem.W.keepIn K (.ref (ga K "_law_next")) = true := by
  obtain ⟨fd, F⟩ := Z.c.def_ 0 (d := d_law_next) rfl
  exact ⟨fd, okA_law_next Z F, F.bindsN fun _ _ _ _ _ _ us hl => match us, hl with | [_, _], _ => rfl, F.kp⟩
theorem sc_law_name : FnScope ["_law_state", "_law_letters", "_law_way", "_law_some", "_law_word", "_law_at", "_law_k"] ["_law_state"] (defScope s_law_name) := ⟨rfl, rfl, rfl, by decide +kernel, rfl, by decide +kernel, by decide +kernel⟩
theorem okA_law_name (Z : Env K mg) {fd : FuncData} (F : FunD K d_law_name.name d_law_name.qual d_law_name.params d_law_name.body d_law_name.scope (d_law_name.dvs K) (d_law_name.kws K) (fAd K d_law_name.at_) fd) : FnOk P w K mg base (L2.CX P w) 2 (ga K "_law_name") fd ["_law_state"] (spM K m_law_name) := by
  obtain ⟨fd_law_next, G_law_next, b_law_next, k_law_next⟩ := ok_law_next (P := P) (w := w) (base := base) Z
  have g__law_next := Z.glo 0 (x := "_law_next") rfl
  have z_len := Z.free 1 (x := "len") rfl
  have z_range := Z.free 2 (x := "range") rfl
  have hc : Hc K := Z.x 0 (f := hcB) rfl
  have xc : Xc K := Z.x 1 (f := xcB) rfl
  refine F.ok (CX := (L2.CX P w)) sc_law_name (fun vs H Q E h => len_M h) (fun cdv A outer s H vs Q E hr h => ⟨cS K p0 (wE E) b_law_name, ?_, run_M rfl h⟩)
  exact (imSs i_seq (pss_cons (imS (i_asgN ⟨.inl rfl, .inl ⟨rfl, rfl⟩⟩ (fun _ _ _ h => h)) (ps_set (i := 1) sc_law_name.nd rfl (Or.inr rfl) (imE i_str pe_str)))
    (imSs i_seq (pss_cons (imS (i_asgN ⟨.inl rfl, .inl ⟨rfl, rfl⟩⟩ (fun _ _ _ h => h)) (ps_set (i := 2) sc_law_name.nd rfl (Or.inl rfl) (imE i_call (pe_callS G_law_next (hr.mono (by decide)) (by exact rfl) g__law_next k_law_next b_law_next (fun σ => passAt (takes_of rfl rfl rfl rfl) σ) (imA i_cons (pa_cons (imE i_var (pv 0)) (imA i_cons (pa_cons (imE i_int pe_int) (imA i_nil pa_nil)))))))))
    (imSs i_seq (pss_cons (imS i_ifS (ps_if (qt_cmp (om_eq hr.units) (imE i_var (pv 2)) (imE i_int pe_int) (nomark _)) (imSs i_seq (pss_cons (imS (i_asgN ⟨.inl rfl, .inl ⟨rfl, rfl⟩⟩ (fun _ _ _ h => h)) (ps_set (i := 3) sc_law_name.nd rfl (Or.inl rfl) (imE i_lst (pe_lst (imA i_cons (pa_cons (imE i_str pe_str) (imA i_cons (pa_cons (imE i_str pe_str) (imA i_cons (pa_cons (imE i_str pe_str) (imA i_cons (pa_cons (imE i_str pe_str) (imA i_cons (pa_cons (imE i_str pe_str) (imA i_cons (pa_cons (imE i_str pe_str) (imA i_cons (pa_cons (imE i_str pe_str) (imA i_cons (pa_cons (imE i_str pe_str) (imA i_cons (pa_cons (imE i_str pe_str) (imA i_cons (pa_cons (imE i_str pe_str) (imA i_cons (pa_cons (imE i_str pe_str) (imA i_cons (pa_cons (imE i_str pe_str) (imA i_cons (pa_cons (imE i_str pe_str) (imA i_nil pa_nil)))))))))))))))))))))))))))))))
    (pss_one (imS i_ret (ps_ret (qe_ix (qe_op om_add (imE i_var (pv 3)) (imE i_lst (pe_lst (imA i_cons (pa_cons (imE i_str pe_str) (imA i_cons (pa_cons (imE i_str pe_str) (imA i_cons (pa_cons (imE i_str pe_str) (imA i_nil pa_nil)))))))))) (imE i_call (pe_callS G_law_next (hr.mono (by decide)) (by exact rfl) g__law_next k_law_next b_law_next (fun σ => passAt (takes_of rfl rfl rfl rfl) σ) (imA i_cons (pa_cons (imE i_var (pv 0)) (imA i_cons (pa_cons (imE i_int pe_int) (imA i_nil pa_nil))))))) (fun _ _ => rfl))))))) (imSs i_next pss_nil)))
    (imSs i_seq (pss_cons (imS i_ifS (ps_if (qt_cmp (om_eq hr.units) (imE i_var (pv 2)) (imE i_int pe_int) (nomark _)) (imSs i_seq (pss_cons (imS (i_asgN ⟨.inl rfl, .inl ⟨rfl, rfl⟩⟩ (fun _ _ _ h => h)) (ps_set (i := 4) sc_law_name.nd rfl (Or.inl rfl) (qe_sl (imE i_str pe_str) (imO i_oNone po_none) (imO i_oSome (po_some (qe_op om_add (imE i_int pe_int) (imE i_call (pe_callS G_law_next (hr.mono (by decide)) (by exact rfl) g__law_next k_law_next b_law_next (fun σ => passAt (takes_of rfl rfl rfl rfl) σ) (imA i_cons (pa_cons (imE i_var (pv 0)) (imA i_cons (pa_cons (imE i_int pe_int) (imA i_nil pa_nil)))))))))))))
    (imSs i_seq (pss_cons (imS (i_asgN ⟨.inl rfl, .inl ⟨rfl, rfl⟩⟩ (fun _ _ _ h => h)) (ps_set (i := 5) sc_law_name.nd rfl (Or.inl rfl) (imE i_call (pe_callS G_law_next (hr.mono (by decide)) (by exact rfl) g__law_next k_law_next b_law_next (fun σ => passAt (takes_of rfl rfl rfl rfl) σ) (imA i_cons (pa_cons (imE i_var (pv 0)) (imA i_cons (pa_cons (qe_cb cm_len fun _ q => pe_callB q (by rfl) z_len (by decide +kernel) (imA i_cons (pa_cons (imE i_var (pv 4)) (imA i_nil pa_nil)))) (imA i_nil pa_nil)))))))))
    (pss_one (imS i_ret (ps_ret (qe_op om_add (qe_op om_add (qe_sl (imE i_var (pv 4)) (imO i_oNone po_none) (imO i_oSome (po_some (imE i_var (pv 5))))) (qe_ix (imE i_str pe_str) (imE i_call (pe_callS G_law_next (hr.mono (by decide)) (by exact rfl) g__law_next k_law_next b_law_next (fun σ => passAt (takes_of rfl rfl rfl rfl) σ) (imA i_cons (pa_cons (imE i_var (pv 0)) (imA i_cons (pa_cons (imE i_int pe_int) (imA i_nil pa_nil))))))) (fun _ _ => rfl))) (qe_sl (imE i_var (pv 4)) (imO i_oSome (po_some (qe_op om_add (imE i_var (pv 5)) (imE i_int pe_int)))) (imO i_oNone po_none)))))))))) (imSs i_next pss_nil)))
    (pss_one (imS i_ret (ps_ret (imE i_join (pe_join (imE i_str pe_str) (imE (i_lc (fun _ _ => ⟨.inl rfl, .inl ⟨rfl, rfl⟩⟩) (fun _ h => h)) (pe_lc (own := [("_law_k", 6)]) rfl sc_law_name.nd (imI i_wRng1 (pi_range1 rfl z_range (imA i_cons (pa_cons (qe_op om_add (imE i_int pe_int) (imE i_call (pe_callS G_law_next (hr.mono (by decide)) (by exact rfl) g__law_next k_law_next b_law_next (fun σ => passAt (takes_of rfl rfl rfl rfl) σ) (imA i_cons (pa_cons (imE i_var (pv 0)) (imA i_cons (pa_cons (imE i_int pe_int) (imA i_nil pa_nil)))))))) (imA i_nil pa_nil))))) (blkOk_by (own := [("_law_k", 6)]) (N := ["_law_state", "_law_letters", "_law_way", "_law_some", "_law_word", "_law_at", "_law_k"]) (sc := defScope s_law_name) (by decide +kernel)) (fun _ _ _ _ _ => (imG (i_hNm ⟨.inl rfl, .inl ⟨rfl, rfl⟩⟩) (pg_name (i := 6) sc_law_name.nd rfl (Or.inl rfl)))) (fun _ _ _ _ _ => (imTs i_uYes pts_nil)) (fun _ _ _ _ _ => (qe_ix (imE i_var (pv 1)) (imE i_call (pe_callS G_law_next (hr.mono (by decide)) (by exact rfl) g__law_next k_law_next b_law_next (fun σ => passAt takes0 σ) (imA i_cons (pa_cons (imE i_var (pv 0)) (imA i_cons (pa_cons (imE i_int pe_int) (imA i_nil pa_nil))))))) (fun _ _ => rfl))))))))))))))))))
theorem ok_law_name (Z : Env K mg) : ∃ fd, FnOk P w K mg base (L2.CX P w) 2 (ga K "_law_name") fd ["_law_state"] (spM K m_law_name) ∧ Binds K fd ["_law_state"] [] ∧ PySem.W.keepIn K (.ref (ga K "_law_name")) = true := by
  obtain ⟨fd, F⟩ := Z.c.def_ 1 (d := d_law_name) rfl
  exact ⟨fd, okA_law_name Z F, F.bindsN fun _ _ _ _ _ _ us hl => match us, hl with | [_], _ => rfl, F.kp⟩
theorem sc_law_leaf : FnScope ["_law_state", "_law_more", "_law_kind", "_law_names", "_law_k", "_law_name_here"] ["_law_state", "_law_more"] (defScope s_law_leaf) := ⟨rfl, rfl, rfl, by decide +kernel, rfl, by decide +kernel, by decide +kernel⟩
theorem okA_law_leaf (Z : Env K mg) {fd : FuncData} (F : FunD K d_law_leaf.name d_law_leaf.qual d_law_leaf.params d_law_leaf.body d_law_leaf.scope (d_law_leaf.dvs K) (d_law_leaf.kws K) (fAd K d_law_leaf.at_) fd) : FnOk P w K mg base (L2.CX P w) 3 (ga K "_law_leaf") fd ["_law_state", "_law_more"] (spM K m_law_leaf) := by
  obtain ⟨fd_law_name, G_law_name, b_law_name, k_law_name⟩ := ok_law_name (P := P) (w := w) (base := base) Z
  obtain ⟨fd_law_next, G_law_next, b_law_next, k_law_next⟩ := ok_law_next (P := P) (w := w) (base := base) Z
  have g__law_name := Z.glo 3 (x := "_law_name") rfl
  have g__law_next := Z.glo 0 (x := "_law_next") rfl
  have z_range := Z.free 2 (x := "range") rfl
  have z_tuple := Z.free 4 (x := "tuple") rfl
  have hc : Hc K := Z.x 0 (f := hcB) rfl
  have xc : Xc K := Z.x 1 (f := xcB) rfl
  refine F.ok (CX := (L2.CX P w)) sc_law_leaf (fun vs H Q E h => len_M h) (fun cdv A outer s H vs Q E hr h => ⟨cS K p0 (wE E) b_law_leaf, ?_, run_M rfl h⟩)
  exact (imSs i_seq (pss_cons (imS (i_asgN ⟨.inl rfl, .inl ⟨rfl, rfl⟩⟩ (fun _ _ _ h => h)) (ps_set (i := 2) sc_law_leaf.nd rfl (Or.inl rfl) (imE i_call (pe_callS G_law_next (hr.mono (by decide)) (by exact rfl) g__law_next k_law_next b_law_next (fun σ => passAt (takes_of rfl rfl rfl rfl) σ) (imA i_cons (pa_cons (imE i_var (pv 0)) (imA i_cons (pa_cons (imE i_int pe_int) (imA i_nil pa_nil)))))))))
    (imSs i_seq (pss_cons (imS i_ifS (ps_if (qt_cmp (om_eq hr.units) (imE i_var (pv 2)) (imE i_int pe_int) (nomark _)) (pss_one (imS i_ret (ps_ret (imE i_tup (pe_tup (imA i_cons (pa_cons (imE i_str pe_str) (imA i_nil pa_nil)))))))) (imSs i_next pss_nil)))
    (imSs i_seq (pss_cons (imS i_ifS (ps_if (qt_cmp om_lt (imE i_var (pv 2)) (imE i_int pe_int) (nomark _)) (pss_one (imS i_ret (ps_ret (imE i_tup (pe_tup (imA i_cons (pa_cons (imE i_str pe_str) (imA i_cons (pa_cons (qe_ix (imE i_lst (pe_lst (imA i_cons (pa_cons (imE i_call (pe_callS G_law_next (hr.mono (by decide)) (by exact rfl) g__law_next k_law_next b_law_next (fun σ => passAt (takes_of rfl rfl rfl rfl) σ) (imA i_cons (pa_cons (imE i_var (pv 0)) (imA i_cons (pa_cons (imE i_int pe_int) (imA i_nil pa_nil))))))) (imA i_cons (pa_cons (imE i_call (pe_callS G_law_next (hr.mono (by decide)) (by exact rfl) g__law_next k_law_next b_law_next (fun σ => passAt (takes_of rfl rfl rfl rfl) σ) (imA i_cons (pa_cons (imE i_var (pv 0)) (imA i_cons (pa_cons (imE i_int (pe_pow2 (r := 1000000) (by decide) ⟨by decide, by decide, by decide⟩)) (imA i_nil pa_nil))))))) (imA i_nil pa_nil))))))) (qe_op om_div (imE i_call (pe_callS G_law_next (hr.mono (by decide)) (by exact rfl) g__law_next k_law_next b_law_next (fun σ => passAt (takes_of rfl rfl rfl rfl) σ) (imA i_cons (pa_cons (imE i_var (pv 0)) (imA i_cons (pa_cons (imE i_int pe_int) (imA i_nil pa_nil))))))) (imE i_int pe_int)) (fun _ _ => rfl)) (imA i_nil pa_nil)))))))))) (imSs i_next pss_nil)))
    (imSs i_seq (pss_cons (imS (i_asgN ⟨.inl rfl, .inl ⟨rfl, rfl⟩⟩ (fun _ _ _ h => h)) (ps_set (i := 3) sc_law_leaf.nd rfl (Or.inl rfl) (imE i_lst (pe_lst (imA i_cons (pa_cons (imE i_call (pe_callS G_law_name (hr.mono (by decide)) (by exact rfl) g__law_name k_law_name b_law_name (fun σ => passAt (takes_of rfl rfl rfl rfl) σ) (imA i_cons (pa_cons (imE i_var (pv 0)) (imA i_nil pa_nil))))) (imA i_nil pa_nil)))))))
    (imSs i_seq (pss_cons (imS i_for (ps_for (passes_of rfl) rfl (imI i_wRng1 (pi_range1 rfl z_range (imA i_cons (pa_cons (imE i_call (pe_callS G_law_next (hr.mono (by decide)) (by exact rfl) g__law_next k_law_next b_law_next (fun σ => passAt (takes_of rfl rfl rfl rfl) σ) (imA i_cons (pa_cons (imE i_var (pv 0)) (imA i_cons (pa_cons (qe_op om_add (imE i_int pe_int) (imE i_var (pv 1))) (imA i_nil pa_nil))))))) (imA i_nil pa_nil))))) (imG (i_hNm ⟨.inl rfl, .inl ⟨rfl, rfl⟩⟩) (pg_name (i := 4) sc_law_leaf.nd rfl (Or.inl rfl)))
    (imSs i_seq (pss_cons (imS (i_asgN ⟨.inl rfl, .inl ⟨rfl, rfl⟩⟩ (fun _ _ _ h => h)) (ps_set (i := 5) sc_law_leaf.nd rfl (Or.inl rfl) (imE i_call (pe_callS G_law_name (hr.mono (by decide)) (by exact rfl) g__law_name k_law_name b_law_name (fun σ => passAt (takes_of rfl rfl rfl rfl) σ) (imA i_cons (pa_cons (imE i_var (pv 0)) (imA i_nil pa_nil)))))))
    (pss_one (imS i_ifS (ps_if (qt_cmp om_notIn (imE i_var (pv 5)) (imE i_var (pv 3)) (by rfl)) (pss_one (imS i_drop (ps_expr (imE i_app (pe_bm PySem.F.plainAttrs_list PySem.F.slot_list_append PySem.F.type_list_append mt_append (imE i_var (pv 3)) (pa_cons (imE i_var (pv 5)) pa_nil)))))) (imSs i_next pss_nil))))))))
    (pss_one (imS i_ret (ps_ret (imE i_tup (pe_tup (imA i_cons (pa_cons (qe_ix (imE i_lst (pe_lst (imA i_cons (pa_cons (imE i_str pe_str) (imA i_cons (pa_cons (imE i_str pe_str) (imA i_nil pa_nil))))))) (qe_op om_mod (imE i_var (pv 2)) (imE i_int pe_int)) (fun _ _ => rfl)) (imA i_cons (pa_cons (qe_cb cm_tup fun _ q => pe_callTy q (by rfl) z_tuple (by decide +kernel) (imA i_cons (pa_cons (imE i_var (pv 3)) (imA i_nil pa_nil)))) (imA i_nil pa_nil))))))))))))))))))))
theorem ok_law_leaf (Z : Env K mg) : ∃ fd, FnOk P w K mg base (L2.CX P w) 3 (ga K "_law_leaf") fd ["_law_state", "_law_more"] (spM K m_law_leaf) ∧ Binds K fd ["_law_state", "_law_more"] [] ∧ PySem.W.keepIn K (.ref (ga K "_law_leaf")) = true := by
  obtain ⟨fd, F⟩ := Z.c.def_ 2 (d := d_law_leaf) rfl
  exact ⟨fd, okA_law_leaf Z F, F.bindsN fun _ _ _ _ _ _ us hl => match us, hl with | [_, _], _ => rfl, F.kp⟩
theorem sc_law_tree : FnScope ["_law_state", "_law_deep", "_law_more", "_law_kind", "_law_parts", "_law_k"] ["_law_state", "_law_deep", "_law_more"] (defScope s_law_tree) := ⟨rfl, rfl, rfl, by decide +kernel, rfl, by decide +kernel, by decide +kernel⟩
theorem bi_law_tree {fd : FuncData} (F : FunD K d_law_tree.name d_law_tree.qual d_law_tree.params d_law_tree.body d_law_tree.scope (d_law_tree.dvs K) (d_law_tree.kws K) (fAd K d_law_tree.at_) fd) : Binds K fd ["_law_state", "_law_deep", "_law_more"] [] := F.bindsN fun _ _ _ _ _ _ us hl => match us, hl with | [_, _, _], _ => rfl
theorem okA_law_tree (d : Nat) (Z : Env K mg) {fd_law_tree : FuncData} (F_law_tree : FunD K d_law_tree.name d_law_tree.qual d_law_tree.params d_law_tree.body d_law_tree.scope (d_law_tree.dvs K) (d_law_tree.kws K) (fAd K d_law_tree.at_) fd_law_tree) (G_law_tree : FnOk P w K mg base (L2.CX P w) (3 + d) (ga K "_law_tree") fd_law_tree ["_law_state", "_law_deep", "_law_more"] (spM K (q_law_tree d))) : FnOk P w K mg base (L2.CX P w) (3 + d + 1) (ga K "_law_tree") fd_law_tree ["_law_state", "_law_deep", "_law_more"] (spM K (q_law_tree (d + 1))) := by
  have b_law_tree := bi_law_tree F_law_tree
  have k_law_tree := F_law_tree.kp
  obtain ⟨fd_law_leaf, G_law_leaf, b_law_leaf, k_law_leaf⟩ := ok_law_leaf (P := P) (w := w) (base := base) Z
  obtain ⟨fd_law_next, G_law_next, b_law_next, k_law_next⟩ := ok_law_next (P := P) (w := w) (base := base) Z
  have g__law_leaf := Z.glo 5 (x := "_law_leaf") rfl
  have g__law_next := Z.glo 0 (x := "_law_next") rfl
  have g__law_tree := Z.glo 6 (x := "_law_tree") rfl
  have z_int := Z.free 7 (x := "int") rfl
  have z_range := Z.free 2 (x := "range") rfl
  have z_tuple := Z.free 4 (x := "tuple") rfl
  have hc : Hc K := Z.x 0 (f := hcB) rfl
  have xc : Xc K := Z.x 1 (f := xcB) rfl
  rw [q_law_tree_s]
  refine F_law_tree.ok (CX := (L2.CX P w)) sc_law_tree (fun vs H Q E h => len_M h) (fun cdv A outer s H vs Q E hr h => ⟨cS K p0 (wE E) (Mo.b_law_tree (q_law_tree d)), ?_, run_M rfl h⟩)
  exact (imSs i_seq (pss_cons (imS (i_asgN ⟨.inl rfl, .inl ⟨rfl, rfl⟩⟩ (fun _ _ _ h => h)) (ps_set (i := 3) sc_law_tree.nd rfl (Or.inl rfl) (imE i_call (pe_callS G_law_next (hr.mono (by omega)) (by exact rfl) g__law_next k_law_next b_law_next (fun σ => passAt (takes_of rfl rfl rfl rfl) σ) (imA i_cons (pa_cons (imE i_var (pv 0)) (imA i_cons (pa_cons (imE i_int pe_int) (imA i_nil pa_nil)))))))))
    (imSs i_seq (pss_cons (imS i_ifS (ps_if (PW.pt (imW i_uOr (pw_or (qt_cmp (om_eq hr.units) (imE i_var (pv 1)) (imE i_int pe_int) (nomark _)) (pw_or1 (qt_cmp om_lt (imE i_var (pv 3)) (imE i_int pe_int) (nomark _)))))) (pss_one (imS i_ret (ps_ret (imE i_call (pe_callS G_law_leaf (hr.mono (by omega)) (by exact rfl) g__law_leaf k_law_leaf b_law_leaf (fun σ => passAt (takes_of rfl rfl rfl rfl) σ) (imA i_cons (pa_cons (imE i_var (pv 0)) (imA i_cons (pa_cons (qe_op om_mul (imE i_var (pv 2)) (qe_cb cm_int fun _ q => pe_callTy q (by rfl) z_int (by decide +kernel) (imA i_cons (pa_cons (qe_cmp om_gt (imE i_var (pv 1)) (imE i_int pe_int) (nomark _)) (imA i_nil pa_nil))))) (imA i_nil pa_nil)))))))))) (imSs i_next pss_nil)))
    (imSs i_seq (pss_cons (imS i_ifS (ps_if (qt_cmp (om_eq hr.units) (imE i_var (pv 3)) (imE i_int pe_int) (nomark _)) (pss_one (imS i_ret (ps_ret (imE i_tup (pe_tup (imA i_cons (pa_cons (imE i_str pe_str) (imA i_cons (pa_cons (imE i_call (pe_callS G_law_tree (hr.mono (by omega)) (by exact rfl) g__law_tree k_law_tree b_law_tree (fun σ => passAt (takes_of rfl rfl rfl rfl) σ) (imA i_cons (pa_cons (imE i_var (pv 0)) (imA i_cons (pa_cons (qe_op om_sub (imE i_var (pv 1)) (imE i_int pe_int)) (imA i_cons (pa_cons (imE i_var (pv 2)) (imA i_nil pa_nil))))))))) (imA i_nil pa_nil)))))))))) (imSs i_next pss_nil)))
    (imSs i_seq (pss_cons (imS (i_asgN ⟨.inl rfl, .inl ⟨rfl, rfl⟩⟩ (i_lc (fun _ _ => ⟨.inl rfl, .inl ⟨rfl, rfl⟩⟩) (fun _ h => h))) (ps_setLc (i := 4) (own := [("_law_k", 5)]) rfl sc_law_tree.nd rfl rfl (sw_true rfl rfl rfl (by decide +kernel)) (imI i_wRng1 (pi_range1 rfl z_range (imA i_cons (pa_cons (qe_op om_add (imE i_int pe_int) (qe_cb cm_int fun _ q => pe_callTy q (by rfl) z_int (by decide +kernel) (imA i_cons (pa_cons (imE i_and (pe_and (qe_cmp om_gt (imE i_var (pv 1)) (imE i_int pe_int) (nomark _)) (pe_one (qe_cmp om_gt (imE i_var (pv 3)) (imE i_int pe_int) (nomark _))))) (imA i_nil pa_nil))))) (imA i_nil pa_nil))))) (blkOk_by (own := [("_law_k", 5)]) (N := ["_law_state", "_law_deep", "_law_more", "_law_kind", "_law_parts", "_law_k"]) (sc := defScope s_law_tree) (by decide +kernel)) (fun _ _ _ _ _ => (imG (i_hNm ⟨.inl rfl, .inl ⟨rfl, rfl⟩⟩) (pg_name (i := 5) sc_law_tree.nd rfl (Or.inl rfl)))) (fun _ _ _ _ _ => (imTs i_uYes pts_nil)) (fun _ _ _ _ _ => (imE i_call (pe_callS G_law_tree (hr.mono (by omega)) (by exact rfl) g__law_tree k_law_tree b_law_tree (fun σ => passAt takes0 σ) (imA i_cons (pa_cons (imE i_var (pv 0)) (imA i_cons (pa_cons (qe_op om_sub (imE i_var (pv 1)) (imE i_int pe_int)) (imA i_cons (pa_cons (imE i_var (pv 2)) (imA i_nil pa_nil))))))))))))
    (pss_one (imS i_ret (ps_ret (imE i_tup (pe_tup (imA i_cons (pa_cons (qe_ix (imE i_lst (pe_lst (imA i_cons (pa_cons (imE i_str pe_str) (imA i_cons (pa_cons (imE i_str pe_str) (imA i_nil pa_nil))))))) (qe_op om_mod (imE i_var (pv 3)) (imE i_int pe_int)) (fun _ _ => rfl)) (imA i_cons (pa_cons (qe_cb cm_tup fun _ q => pe_callTy q (by rfl) z_tuple (by decide +kernel) (imA i_cons (pa_cons (imE i_var (pv 4)) (imA i_nil pa_nil)))) (imA i_nil pa_nil))))))))))))))))))
theorem rec_law_tree (Z : Env K mg) {fd_law_tree : FuncData} (F_law_tree : FunD K d_law_tree.name d_law_tree.qual d_law_tree.params d_law_tree.body d_law_tree.scope (d_law_tree.dvs K) (d_law_tree.kws K) (fAd K d_law_tree.at_) fd_law_tree) : ∀ d : Nat, FnOk P w K mg base (L2.CX P w) (3 + d) (ga K "_law_tree") fd_law_tree ["_law_state", "_law_deep", "_law_more"] (spM K (q_law_tree d))
  | 0 => vac_ok
  | d + 1 => by
    have G_law_tree := rec_law_tree Z F_law_tree d
    exact okA_law_tree d Z F_law_tree G_law_tree
theorem ok_law_tree (Z : Env K mg) : ∃ fd, FnOk P w K mg base (L2.CX P w) 53 (ga K "_law_tree") fd ["_law_state", "_law_deep", "_law_more"] (spM K m_law_tree) ∧ Binds K fd ["_law_state", "_law_deep", "_law_more"] [] ∧ PySem.W.keepIn K (.ref (ga K "_law_tree")) = true := by
  obtain ⟨fd_law_tree, F_law_tree⟩ := Z.c.def_ 3 (d := d_law_tree) rfl
  exact ⟨fd_law_tree, (rec_law_tree Z F_law_tree 50), bi_law_tree F_law_tree, F_law_tree.kp⟩
theorem sc_law_begin : FnScope ["_law_cell"] ["_law_cell"] (defScope s_law_begin) := ⟨rfl, rfl, rfl, by decide +kernel, rfl, by decide +kernel, by decide +kernel⟩
theorem okA_law_begin (Z : Env K mg) {fd : FuncData} (F : FunD K d_law_begin.name d_law_begin.qual d_law_begin.params d_law_begin.body d_law_begin.scope (d_law_begin.dvs K) (d_law_begin.kws K) (fAd K d_law_begin.at_) fd) : FnOk P w K mg base (L2.CX P w) 1 (ga K "_law_begin") fd ["_law_cell"] (spM K m_law_begin) := by
  have hc : Hc K := Z.x 0 (f := hcB) rfl
  have xc : Xc K := Z.x 1 (f := xcB) rfl
  refine F.ok (CX := (L2.CX P w)) sc_law_begin (fun vs H Q E h => len_M h) (fun cdv A outer s H vs Q E hr h => ⟨cS K p0 (wE E) b_law_begin, ?_, run_M rfl h⟩)
  exact (pss_one (imS i_ret (ps_ret (imE i_lst (pe_lst (imA i_cons (pa_cons (qe_op om_mul (qe_op om_div (imE i_var (pv 0)) (imE i_int pe_int)) (qe_op om_sub (imE i_int pe_int) (qe_op om_mod (imE i_var (pv 0)) (imE i_int pe_int)))) (imA i_cons (pa_cons (qe_op om_mod (imE i_var (pv 0)) (imE i_int pe_int)) (imA i_cons (pa_cons (imE i_int pe_int) (imA i_nil pa_nil))))))))))))
theorem ok_law_begin (Z : Env K mg) : ∃ fd, FnOk P w K mg base (L2.CX P w) 1 (ga K "_law_begin") fd ["_law_cell"] (spM K m_law_begin) ∧ Binds K fd ["_law_cell"] [] ∧ PySem.W.keepIn K (.ref (ga K "_law_begin")) = true := by
  obtain ⟨fd, F⟩ := Z.c.def_ 4 (d := d_law_begin) rfl
  exact ⟨fd, okA_law_begin Z F, F.bindsN fun _ _ _ _ _ _ us hl => match us, hl with | [_], _ => rfl, F.kp⟩
theorem sc_law_beside : FnScope ["_law_names", "_law_letter"] ["_law_names"] (defScope s_law_beside) := ⟨rfl, rfl, rfl, by decide +kernel, rfl, by decide +kernel, by decide +kernel⟩
theorem okA_law_beside (Z : Env K mg) {fd : FuncData} (F : FunD K d_law_beside.name d_law_beside.qual d_law_beside.params d_law_beside.body d_law_beside.scope (d_law_beside.dvs K) (d_law_beside.kws K) (fAd K d_law_beside.at_) fd) : FnOk P w K mg base (L2.CX P w) 1 (ga K "_law_beside") fd ["_law_names"] (spM K m_law_beside) := by
  have hc : Hc K := Z.x 0 (f := hcB) rfl
  have xc : Xc K := Z.x 1 (f := xcB) rfl
  refine F.ok (CX := (L2.CX P w)) sc_law_beside (fun vs H Q E h => len_M h) (fun cdv A outer s H vs Q E hr h => ⟨cS K p0 (wE E) b_law_beside, ?_, run_M rfl h⟩)
  exact (imSs i_seq (pss_cons (imS i_for (ps_for (passes_of rfl) rfl (qi_D (imE i_str pe_str)) (imG (i_hNm ⟨.inl rfl, .inl ⟨rfl, rfl⟩⟩) (pg_name (i := 1) sc_law_beside.nd rfl (Or.inl rfl)))
    (pss_one (imS i_ifS (ps_if (qt_cmp om_notIn (imE i_var (pv 1)) (imE i_var (pv 0)) (by rfl)) (pss_one (imS i_ret (ps_ret (qe_op om_add (imE i_var (pv 0)) (imE i_lst (pe_lst (imA i_cons (pa_cons (imE i_var (pv 1)) (imA i_nil pa_nil))))))))) (imSs i_next pss_nil))))))
    (pss_one (imS i_ret (ps_ret (qe_op om_add (imE i_var (pv 0)) (imE i_lst (pe_lst (imA i_cons (pa_cons (imE i_str pe_str) (imA i_nil pa_nil)))))))))))
theorem ok_law_beside (Z : Env K mg) : ∃ fd, FnOk P w K mg base (L2.CX P w) 1 (ga K "_law_beside") fd ["_law_names"] (spM K m_law_beside) ∧ Binds K fd ["_law_names"] [] ∧ PySem.W.keepIn K (.ref (ga K "_law_beside")) = true := by
  obtain ⟨fd, F⟩ := Z.c.def_ 5 (d := d_law_beside) rfl
  exact ⟨fd, okA_law_beside Z F, F.bindsN fun _ _ _ _ _ _ us hl => match us, hl with | [_], _ => rfl, F.kp⟩
theorem sc_law_gathered : FnScope ["_law_tree_here", "_law_word", "_law_found", "_law_part"] ["_law_tree_here", "_law_word"] (defScope s_law_gathered) := ⟨rfl, rfl, rfl, by decide +kernel, rfl, by decide +kernel, by decide +kernel⟩
theorem bi_law_gathered {fd : FuncData} (F : FunD K d_law_gathered.name d_law_gathered.qual d_law_gathered.params d_law_gathered.body d_law_gathered.scope (d_law_gathered.dvs K) (d_law_gathered.kws K) (fAd K d_law_gathered.at_) fd) : Binds K fd ["_law_tree_here", "_law_word"] [] := F.bindsN fun _ _ _ _ _ _ us hl => match us, hl with | [_, _], _ => rfl
theorem okA_law_gathered (d : Nat) (Z : Env K mg) {fd_law_gathered : FuncData} (F_law_gathered : FunD K d_law_gathered.name d_law_gathered.qual d_law_gathered.params d_law_gathered.body d_law_gathered.scope (d_law_gathered.dvs K) (d_law_gathered.kws K) (fAd K d_law_gathered.at_) fd_law_gathered) (G_law_gathered : FnOk P w K mg base (L2.CX P w) (0 + d) (ga K "_law_gathered") fd_law_gathered ["_law_tree_here", "_law_word"] (spM K (q_law_gathered d))) : FnOk P w K mg base (L2.CX P w) (0 + d + 1) (ga K "_law_gathered") fd_law_gathered ["_law_tree_here", "_law_word"] (spM K (q_law_gathered (d + 1))) := by
  have b_law_gathered := bi_law_gathered F_law_gathered
  have k_law_gathered := F_law_gathered.kp
  have g__law_gathered := Z.glo 8 (x := "_law_gathered") rfl
  have z_list := Z.free 9 (x := "list") rfl
  have hc : Hc K := Z.x 0 (f := hcB) rfl
  have xc : Xc K := Z.x 1 (f := xcB) rfl
  rw [q_law_gathered_s]
  refine F_law_gathered.ok (CX := (L2.CX P w)) sc_law_gathered (fun vs H Q E h => len_M h) (fun cdv A outer s H vs Q E hr h => ⟨cS K p0 (wE E) (Mo.b_law_gathered (q_law_gathered d)), ?_, run_M rfl h⟩)
  exact (imSs i_seq (pss_cons (imS i_ifS (ps_if (PW.pt (imW i_uAnd (pw_and (qt_cmp (om_eq hr.units) (qe_ix (imE i_var (pv 0)) (imE i_int pe_int) (fun _ _ => rfl)) (imE i_var (pv 1)) (nomark _)) (pw_and1 (qt_cmp (om_eq hr.units) (imE i_var (pv 1)) (imE i_str pe_str) (nomark _)))))) (pss_one (imS i_ret (ps_ret (imE i_lst (pe_lst (imA i_cons (pa_cons (qe_ix (imE i_var (pv 0)) (imE i_int pe_int) (fun _ _ => rfl)) (imA i_nil pa_nil)))))))) (imSs i_next pss_nil)))
    (imSs i_seq (pss_cons (imS i_ifS (ps_if (qt_cmp (om_eq hr.units) (qe_ix (imE i_var (pv 0)) (imE i_int pe_int) (fun _ _ => rfl)) (imE i_var (pv 1)) (nomark _)) (pss_one (imS i_ret (ps_ret (qe_cb (cm_list false) fun _ q => pe_callTy q (by rfl) z_list (by decide +kernel) (imA i_cons (pa_cons (qe_ix (imE i_var (pv 0)) (imE i_int pe_int) (fun _ _ => rfl)) (imA i_nil pa_nil))))))) (imSs i_next pss_nil)))
    (imSs i_seq (pss_cons (imS i_ifS (ps_if (qt_cmp (om_eq hr.units) (qe_ix (imE i_var (pv 0)) (imE i_int pe_int) (fun _ _ => rfl)) (imE i_str pe_str) (nomark _)) (pss_one (imS i_ret (ps_ret (imE i_call (pe_callS G_law_gathered (hr.mono (by omega)) (by exact rfl) g__law_gathered k_law_gathered b_law_gathered (fun σ => passAt (takes_of rfl rfl rfl rfl) σ) (imA i_cons (pa_cons (qe_ix (imE i_var (pv 0)) (imE i_int pe_int) (fun _ _ => rfl)) (imA i_cons (pa_cons (imE i_var (pv 1)) (imA i_nil pa_nil)))))))))) (imSs i_next pss_nil)))
    (imSs i_seq (pss_cons (imS (i_asgN ⟨.inl rfl, .inl ⟨rfl, rfl⟩⟩ (fun _ _ _ h => h)) (ps_set (i := 2) sc_law_gathered.nd rfl (Or.inl rfl) (imE i_lst (pe_lst (imA i_nil pa_nil)))))
    (imSs i_seq (pss_cons (imS i_ifS (ps_if (PW.pt (imW i_uOr (pw_or (qt_cmp (om_eq hr.units) (qe_ix (imE i_var (pv 0)) (imE i_int pe_int) (fun _ _ => rfl)) (imE i_str pe_str) (nomark _)) (pw_or1 (qt_cmp (om_eq hr.units) (qe_ix (imE i_var (pv 0)) (imE i_int pe_int) (fun _ _ => rfl)) (imE i_str pe_str) (nomark _)))))) (pss_one (imS i_for (ps_for (passes_of rfl) rfl (qi_D (qe_ix (imE i_var (pv 0)) (imE i_int pe_int) (fun _ _ => rfl))) (imG (i_hNm ⟨.inl rfl, .inl ⟨rfl, rfl⟩⟩) (pg_name (i := 3) sc_law_gathered.nd rfl (Or.inl rfl)))
    (pss_one (imS (i_asgN ⟨.inl rfl, .inl ⟨rfl, rfl⟩⟩ (fun _ _ _ h => h)) (ps_set (i := 2) sc_law_gathered.nd rfl (Or.inl rfl) (qe_op om_add (imE i_var (pv 2)) (imE i_call (pe_callS G_law_gathered (hr.mono (by omega)) (by exact rfl) g__law_gathered k_law_gathered b_law_gathered (fun σ => passAt (takes_of rfl rfl rfl rfl) σ) (imA i_cons (pa_cons (imE i_var (pv 3)) (imA i_cons (pa_cons (imE i_var (pv 1)) (imA i_nil pa_nil)))))))))))))) (imSs i_next pss_nil)))
    (pss_one (imS i_ret (ps_ret (imE i_var (pv 2)))))))))))))))
theorem rec_law_gathered (Z : Env K mg) {fd_law_gathered : FuncData} (F_law_gathered : FunD K d_law_gathered.name d_law_gathered.qual d_law_gathered.params d_law_gathered.body d_law_gathered.scope (d_law_gathered.dvs K) (d_law_gathered.kws K) (fAd K d_law_gathered.at_) fd_law_gathered) : ∀ d : Nat, FnOk P w K mg base (L2.CX P w) (0 + d) (ga K "_law_gathered") fd_law_gathered ["_law_tree_here", "_law_word"] (spM K (q_law_gathered d))
  | 0 => vac_ok
  | d + 1 => by
    have G_law_gathered := rec_law_gathered Z F_law_gathered d
    exact okA_law_gathered d Z F_law_gathered G_law_gathered
theorem ok_law_gathered (Z : Env K mg) : ∃ fd, FnOk P w K mg base (L2.CX P w) 50 (ga K "_law_gathered") fd ["_law_tree_here", "_law_word"] (spM K m_law_gathered) ∧ Binds K fd ["_law_tree_here", "_law_word"] [] ∧ PySem.W.keepIn K (.ref (ga K "_law_gathered")) = true := by
  obtain ⟨fd_law_gathered, F_law_gathered⟩ := Z.c.def_ 6 (d := d_law_gathered) rfl
  exact ⟨fd_law_gathered, (rec_law_gathered Z F_law_gathered 50), bi_law_gathered F_law_gathered, F_law_gathered.kp⟩
theorem sc_law_all : FnScope ["_law_trees", "_law_whole", "_law_kinds", "_law_places", "_law_weights", "_law_found", "_law_kind", "_law_place", "_law_weight"] ["_law_trees"] (defScope s_law_all) := ⟨rfl, rfl, rfl, by decide +kernel, rfl, by decide +kernel, by decide +kernel⟩
theorem okA_law_all (Z : Env K mg) {fd : FuncData} (F : FunD K d_law_all.name d_law_all.qual d_law_all.params d_law_all.body d_law_all.scope (d_law_all.dvs K) (d_law_all.kws K) (fAd K d_law_all.at_) fd) : FnOk P w K mg base (L2.CX P w) 51 (ga K "_law_all") fd ["_law_trees"] (spM K m_law_all) := by
  obtain ⟨fd_law_beside, G_law_beside, b_law_beside, k_law_beside⟩ := ok_law_beside (P := P) (w := w) (base := base) Z
  obtain ⟨fd_law_gathered, G_law_gathered, b_law_gathered, k_law_gathered⟩ := ok_law_gathered (P := P) (w := w) (base := base) Z
  have g__law_beside := Z.glo 10 (x := "_law_beside") rfl
  have g__law_gathered := Z.glo 8 (x := "_law_gathered") rfl
  have z_set := Z.free 11 (x := "set") rfl
  have z_sorted := Z.free 12 (x := "sorted") rfl
  have z_tuple := Z.free 4 (x := "tuple") rfl
  have hc : Hc K := Z.x 0 (f := hcB) rfl
  have xc : Xc K := Z.x 1 (f := xcB) rfl
  refine F.ok (CX := (L2.CX P w)) sc_law_all (fun vs H Q E h => len_M h) (fun cdv A outer s H vs Q E hr h => ⟨cS K p0 (wE E) b_law_all, ?_, run_M rfl h⟩)
  exact (imSs i_seq (pss_cons (imS (i_asgN ⟨.inl rfl, .inl ⟨rfl, rfl⟩⟩ (fun _ _ _ h => h)) (ps_set (i := 1) sc_law_all.nd rfl (Or.inl rfl) (imE i_tup (pe_tup (imA i_cons (pa_cons (imE i_str pe_str) (imA i_cons (pa_cons (qe_cb cm_tup fun _ q => pe_callTy q (by rfl) z_tuple (by decide +kernel) (imA i_cons (pa_cons (imE i_var (pv 0)) (imA i_nil pa_nil)))) (imA i_nil pa_nil)))))))))
    (imSs i_seq (pss_cons (imS (i_asgN ⟨.inl rfl, .inl ⟨rfl, rfl⟩⟩ (fun _ _ _ h => h)) (ps_set (i := 2) sc_law_all.nd rfl (Or.inl rfl) (imE i_call (pe_callS G_law_beside (hr.mono (by decide)) (by exact rfl) g__law_beside k_law_beside b_law_beside (fun σ => passAt (takes_of rfl rfl rfl rfl) σ) (imA i_cons (pa_cons (imE i_call (pe_callS G_law_gathered (hr.mono (by decide)) (by exact rfl) g__law_gathered k_law_gathered b_law_gathered (fun σ => passAt (takes_of rfl rfl rfl rfl) σ) (imA i_cons (pa_cons (imE i_var (pv 1)) (imA i_cons (pa_cons (imE i_str pe_str) (imA i_nil pa_nil))))))) (imA i_nil pa_nil)))))))
    (imSs i_seq (pss_cons (imS (i_asgN ⟨.inl rfl, .inl ⟨rfl, rfl⟩⟩ (fun _ _ _ h => h)) (ps_set (i := 3) sc_law_all.nd rfl (Or.inl rfl) (imE i_call (pe_callS G_law_beside (hr.mono (by decide)) (by exact rfl) g__law_beside k_law_beside b_law_beside (fun σ => passAt (takes_of rfl rfl rfl rfl) σ) (imA i_cons (pa_cons (imE i_call (pe_callS G_law_gathered (hr.mono (by decide)) (by exact rfl) g__law_gathered k_law_gathered b_law_gathered (fun σ => passAt (takes_of rfl rfl rfl rfl) σ) (imA i_cons (pa_cons (imE i_var (pv 1)) (imA i_cons (pa_cons (imE i_str pe_str) (imA i_nil pa_nil))))))) (imA i_nil pa_nil)))))))
    (imSs i_seq (pss_cons (imS (i_asgN ⟨.inl rfl, .inl ⟨rfl, rfl⟩⟩ (fun _ _ _ h => h)) (ps_set (i := 4) sc_law_all.nd rfl (Or.inl rfl) (imE i_sortS (pe_sortSet rfl (by rfl) z_sorted (by rfl) z_set (qe_op om_add (imE i_lst (pe_lst (imA i_cons (pa_cons (imE i_int pe_int) (imA i_nil pa_nil))))) (imE i_call (pe_callS G_law_gathered (hr.mono (by decide)) (by exact rfl) g__law_gathered k_law_gathered b_law_gathered (fun σ => passAt (takes_of rfl rfl rfl rfl) σ) (imA i_cons (pa_cons (imE i_var (pv 1)) (imA i_cons (pa_cons (imE i_str pe_str) (imA i_nil pa_nil))))))))))))
    (imSs i_seq (pss_cons (imS (i_asgN ⟨.inl rfl, .inl ⟨rfl, rfl⟩⟩ (fun _ _ _ h => h)) (ps_set (i := 5) sc_law_all.nd rfl (Or.inl rfl) (imE i_lst (pe_lst (imA i_nil pa_nil)))))
    (imSs i_seq (pss_cons (imS i_for (ps_for (passes_of rfl) rfl (qi_D (imE i_var (pv 2))) (imG (i_hNm ⟨.inl rfl, .inl ⟨rfl, rfl⟩⟩) (pg_name (i := 6) sc_law_all.nd rfl (Or.inr rfl)))
    (pss_one (imS i_for (ps_for (passes_of rfl) rfl (qi_D (imE i_var (pv 3))) (imG (i_hNm ⟨.inl rfl, .inl ⟨rfl, rfl⟩⟩) (pg_name (i := 7) sc_law_all.nd rfl (Or.inr rfl)))
    (pss_one (imS (i_asgN ⟨.inl rfl, .inl ⟨rfl, rfl⟩⟩ (fun _ _ _ h => h)) (ps_set (i := 5) sc_law_all.nd rfl (Or.inl rfl) (qe_op om_add (imE i_var (pv 5)) (imE (i_lc (fun _ _ => ⟨.inl rfl, .inl ⟨rfl, rfl⟩⟩) (fun _ h => h)) (pe_lc (own := [("_law_weight", 8)]) rfl sc_law_all.nd (qi_D (imE i_var (pv 4))) (blkOk_by (own := [("_law_weight", 8)]) (N := ["_law_trees", "_law_whole", "_law_kinds", "_law_places", "_law_weights", "_law_found", "_law_kind", "_law_place", "_law_weight"]) (sc := defScope s_law_all) (by decide +kernel)) (fun _ _ _ _ _ => (imG (i_hNm ⟨.inl rfl, .inl ⟨rfl, rfl⟩⟩) (pg_name (i := 8) sc_law_all.nd rfl (Or.inl rfl)))) (fun _ _ _ _ _ => (imTs i_uYes pts_nil)) (fun _ _ _ _ _ => (imE i_tup (pe_tup (imA i_cons (pa_cons (imE i_var (pv 6)) (imA i_cons (pa_cons (imE i_var (pv 7)) (imA i_cons (pa_cons (imE i_var (pv 8)) (imA i_nil pa_nil)))))))))))))))))))))
    (pss_one (imS i_ret (ps_ret (imE i_var (pv 5)))))))))))))))))
theorem ok_law_all (Z : Env K mg) : ∃ fd, FnOk P w K mg base (L2.CX P w) 51 (ga K "_law_all") fd ["_law_trees"] (spM K m_law_all) ∧ Binds K fd ["_law_trees"] [] ∧ PySem.W.keepIn K (.ref (ga K "_law_all")) = true := by
  obtain ⟨fd, F⟩ := Z.c.def_ 7 (d := d_law_all) rfl
  exact ⟨fd, okA_law_all Z F, F.bindsN fun _ _ _ _ _ _ us hl => match us, hl with | [_], _ => rfl, F.kp⟩
theorem sc_Several_init : FnScope ["self", "fits", "fit"] ["self", "fits"] (defScope s_Several_init) := ⟨rfl, rfl, rfl, by decide +kernel, rfl, by decide +kernel, by decide +kernel⟩
theorem okA_Several_init (Z : Env K mg) {fd : FuncData} (F : FunD K d_Several_init.name d_Several_init.qual d_Several_init.params d_Several_init.body d_Several_init.scope (d_Several_init.dvs K) (d_Several_init.kws K) (fAd K d_Several_init.at_) fd) : FnOk P w K mg base (L2.CX P w) 1 (ma K (ga K "Several") "__init__") fd ["self", "fits"] (spI K ["fits"] m_Several_init) := by
  have g_Fit := Z.glo 13 (x := "Fit") rfl
  have g_NoFit := Z.glo 14 (x := "NoFit") rfl
  have z_all := Z.free 15 (x := "all") rfl
  have z_isinstance := Z.free 16 (x := "isinstance") rfl
  have z_len := Z.free 1 (x := "len") rfl
  have z_list := Z.free 9 (x := "list") rfl
  have hc : Hc K := Z.x 0 (f := hcB) rfl
  have xc : Xc K := Z.x 1 (f := xcB) rfl
  have x_NoFit := exc_ok (Z.c.fact 17 (f := .exc "NoFit") rfl)
  refine F.ok (CX := (L2.CX P w)) sc_Several_init (fun vs H Q E h => len_I h) (fun cdv A outer s H vs Q E hr h => ?_)
  obtain ⟨x, dx, C, hL, q⟩ := run_I (N := ["self", "fits", "fit"]) rfl (by decide) h
  refine ⟨cS K ⟨none, 0, some (x, dx, C), none⟩ (wE E) b_Several_init, ?_, q⟩
  exact (imSs i_seq (pss_cons (imS i_ifS (ps_if (PW.pt (imW i_uOr (pw_or (imT i_uNot (pt_not (imT i_tru (pt_truth (qe_cb (cm_isi hc) fun _ q => pe_callB q (by rfl) z_isinstance (by decide +kernel) (imA i_cons (pa_cons (imE i_var (pv 1)) (imA i_cons (pa_cons (imE i_ty (pe_bltn (v := .ty "list") (by rfl) z_list (by decide +kernel) rfl)) (imA i_nil pa_nil)))))) (by intro _; rfl))))) (imW i_uOr (pw_or (qt_cmp om_lt (qe_cb cm_len fun _ q => pe_callB q (by rfl) z_len (by decide +kernel) (imA i_cons (pa_cons (imE i_var (pv 1)) (imA i_nil pa_nil)))) (imE i_int pe_int) (nomark _)) (pw_or1 (imT i_uNot (pt_not (imT i_tru (pt_truth (qe_cb (cm_all rfl) fun _ q => pe_callB q (by rfl) z_all (by decide +kernel) (imA i_cons (pa_cons (imE (i_lc (fun _ h => List.mem_singleton.mp h ▸ ⟨.inr (by decide), .inl ⟨rfl, rfl⟩⟩) (fun _ h => h)) (pe_lc (own := [("fit", 2)]) rfl sc_Several_init.nd (qi_D (imE i_var (pv 1))) (blkOk_by (own := [("fit", 2)]) (N := ["self", "fits", "fit"]) (sc := defScope s_Several_init) (by decide +kernel)) (fun _ _ _ _ _ => (imG (i_hNm ⟨.inr (by decide), .inl ⟨rfl, rfl⟩⟩) (pg_name (i := 2) sc_Several_init.nd rfl (Or.inl rfl)))) (fun _ _ _ _ _ => (imTs i_uYes pts_nil)) (fun _ _ _ _ _ => (qe_cb (cm_isi hc) fun _ q => pe_callB q (by rfl) z_isinstance (by decide +kernel) (imA i_cons (pa_cons (imE i_var (pv 2)) (imA i_cons (pa_cons (imE i_cls (pe_glob rfl g_Fit rfl)) (imA i_nil pa_nil))))))))) (imA i_nil pa_nil)))) (by intro _; rfl))))))))))) (pss_one (qs_raise (C := "NoFit") (by decide +kernel) rfl (takes_of rfl rfl rfl rfl) (pmk_own PySem.F.excBase_ValueError x_NoFit.1 g_NoFit x_NoFit.2.1 (raises_own x_NoFit.2.2.1 x_NoFit.2.2.2) (by exact rfl)))) (imSs i_next pss_nil)))
    (pss_one (imS (i_me hc rfl (allL hL 0 rfl)) (ps_fld (pv 0) (qe_cb (cm_list false) fun _ q => pe_callTy q (by rfl) z_list (by decide +kernel) (imA i_cons (pa_cons (imE i_var (pv 1)) (imA i_nil pa_nil)))) rfl)))))
theorem ok_Several_init (Z : Env K mg) : ∃ fd, FnOk P w K mg base (L2.CX P w) 1 (ma K (ga K "Several") "__init__") fd ["self", "fits"] (spI K ["fits"] m_Several_init) ∧ Binds K fd ["self", "fits"] [] ∧ PySem.W.keepIn K (.ref (ma K (ga K "Several") "__init__")) = true := by
  obtain ⟨fd, F⟩ := Z.c.def_ 8 (d := d_Several_init) rfl
  exact ⟨fd, okA_Several_init Z F, F.bindsN fun _ _ _ _ _ _ us hl => match us, hl with | [_, _], _ => rfl, F.kp⟩
theorem sc_is_name : FnScope ["thing", "sign"] ["thing"] (defScope s_is_name) := ⟨rfl, rfl, rfl, by decide +kernel, rfl, by decide +kernel, by decide +kernel⟩
theorem okA_is_name (Z : Env K mg) {fd : FuncData} (F : FunD K d_is_name.name d_is_name.qual d_is_name.params d_is_name.body d_is_name.scope (d_is_name.dvs K) (d_is_name.kws K) (fAd K d_is_name.at_) fd) : FnOk P w K mg base (L2.CX P w) 1 (ga K "is_name") fd ["thing"] (spM K m_is_name) := by
  have z_all := Z.free 15 (x := "all") rfl
  have z_isinstance := Z.free 16 (x := "isinstance") rfl
  have z_len := Z.free 1 (x := "len") rfl
  have z_str := Z.free 18 (x := "str") rfl
  have g_MOST_LETTERS := Z.int 19 (x := "MOST_LETTERS") (i := 8) rfl
  have g_LETTERS := Z.str 20 (x := "LETTERS") (z := "abcdefghijklmnopqrstuvwxyz") rfl
  have hc : Hc K := Z.x 0 (f := hcB) rfl
  have xc : Xc K := Z.x 1 (f := xcB) rfl
  refine F.ok (CX := (L2.CX P w)) sc_is_name (fun vs H Q E h => len_M h) (fun cdv A outer s H vs Q E hr h => ⟨cS K p0 (wE E) b_is_name, ?_, run_M rfl h⟩)
  exact (imSs i_seq (pss_cons (imS i_ifS (ps_if (PW.pt (imW i_uOr (pw_or (imT i_uNot (pt_not (imT i_tru (pt_truth (qe_cb (cm_isi hc) fun _ q => pe_callB q (by rfl) z_isinstance (by decide +kernel) (imA i_cons (pa_cons (imE i_var (pv 0)) (imA i_cons (pa_cons (imE i_ty (pe_bltn (v := .ty "str") (by rfl) z_str (by decide +kernel) rfl)) (imA i_nil pa_nil)))))) (by intro _; rfl))))) (imW i_uOr (pw_or (qt_cmp (om_eq hr.units) (imE i_var (pv 0)) (imE i_str pe_str) (nomark _)) (pw_or1 (qt_cmp om_gt (qe_cb cm_len fun _ q => pe_callB q (by rfl) z_len (by decide +kernel) (imA i_cons (pa_cons (imE i_var (pv 0)) (imA i_nil pa_nil)))) (imE i_int (pe_glob rfl (Classical.choose_spec g_MOST_LETTERS) ⟨_, rfl⟩)) (nomark _)))))))) (pss_one (imS i_ret (ps_ret (imE i_bl pe_bl)))) (imSs i_next pss_nil)))
    (pss_one (imS i_ret (ps_ret (qe_cb (cm_all rfl) fun _ q => pe_callB q (by rfl) z_all (by decide +kernel) (imA i_cons (pa_cons (imE (i_lc (fun _ _ => ⟨.inl rfl, .inl ⟨rfl, rfl⟩⟩) (fun _ h => h)) (pe_lc (own := [("sign", 1)]) rfl sc_is_name.nd (qi_D (imE i_var (pv 0))) (blkOk_by (own := [("sign", 1)]) (N := ["thing", "sign"]) (sc := defScope s_is_name) (by decide +kernel)) (fun _ _ _ _ _ => (imG (i_hNm ⟨.inl rfl, .inl ⟨rfl, rfl⟩⟩) (pg_name (i := 1) sc_is_name.nd rfl (Or.inl rfl)))) (fun _ _ _ _ _ => (imTs i_uYes pts_nil)) (fun _ _ _ _ _ => (qe_cmp om_in (imE i_var (pv 1)) (imE i_str (pe_glob rfl (Classical.choose_spec g_LETTERS) ⟨_, rfl⟩)) (by rfl))))) (imA i_nil pa_nil)))))))))
theorem ok_is_name (Z : Env K mg) : ∃ fd, FnOk P w K mg base (L2.CX P w) 1 (ga K "is_name") fd ["thing"] (spM K m_is_name) ∧ Binds K fd ["thing"] [] ∧ PySem.W.keepIn K (.ref (ga K "is_name")) = true := by
  obtain ⟨fd, F⟩ := Z.c.def_ 9 (d := d_is_name) rfl
  exact ⟨fd, okA_is_name Z F, F.bindsN fun _ _ _ _ _ _ us hl => match us, hl with | [_], _ => rfl, F.kp⟩
theorem sc_are_names : FnScope ["thing", "one"] ["thing"] (defScope s_are_names) := ⟨rfl, rfl, rfl, by decide +kernel, rfl, by decide +kernel, by decide +kernel⟩
theorem okA_are_names (Z : Env K mg) {fd : FuncData} (F : FunD K d_are_names.name d_are_names.qual d_are_names.params d_are_names.body d_are_names.scope (d_are_names.dvs K) (d_are_names.kws K) (fAd K d_are_names.at_) fd) : FnOk P w K mg base (L2.CX P w) 2 (ga K "are_names") fd ["thing"] (spM K m_are_names) := by
  obtain ⟨fd_is_name, G_is_name, b_is_name, k_is_name⟩ := ok_is_name (P := P) (w := w) (base := base) Z
  have g_is_name := Z.glo 21 (x := "is_name") rfl
  have z_all := Z.free 15 (x := "all") rfl
  have z_isinstance := Z.free 16 (x := "isinstance") rfl
  have z_len := Z.free 1 (x := "len") rfl
  have z_list := Z.free 9 (x := "list") rfl
  have z_set := Z.free 11 (x := "set") rfl
  have hc : Hc K := Z.x 0 (f := hcB) rfl
  have xc : Xc K := Z.x 1 (f := xcB) rfl
  refine F.ok (CX := (L2.CX P w)) sc_are_names (fun vs H Q E h => len_M h) (fun cdv A outer s H vs Q E hr h => ⟨cS K p0 (wE E) b_are_names, ?_, run_M rfl h⟩)
  exact (imSs i_seq (pss_cons (imS i_ifS (ps_if (PW.pt (imW i_uOr (pw_or (imT i_uNot (pt_not (imT i_tru (pt_truth (qe_cb (cm_isi hc) fun _ q => pe_callB q (by rfl) z_isinstance (by decide +kernel) (imA i_cons (pa_cons (imE i_var (pv 0)) (imA i_cons (pa_cons (imE i_ty (pe_bltn (v := .ty "list") (by rfl) z_list (by decide +kernel) rfl)) (imA i_nil pa_nil)))))) (by intro _; rfl))))) (pw_or1 (imT i_uNot (pt_not (imT i_tru (pt_truth (qe_cb (cm_all rfl) fun _ q => pe_callB q (by rfl) z_all (by decide +kernel) (imA i_cons (pa_cons (imE (i_lc (fun _ _ => ⟨.inl rfl, .inl ⟨rfl, rfl⟩⟩) (fun _ h => h)) (pe_lc (own := [("one", 1)]) rfl sc_are_names.nd (qi_D (imE i_var (pv 0))) (blkOk_by (own := [("one", 1)]) (N := ["thing", "one"]) (sc := defScope s_are_names) (by decide +kernel)) (fun _ _ _ _ _ => (imG (i_hNm ⟨.inl rfl, .inl ⟨rfl, rfl⟩⟩) (pg_name (i := 1) sc_are_names.nd rfl (Or.inl rfl)))) (fun _ _ _ _ _ => (imTs i_uYes pts_nil)) (fun _ _ _ _ _ => (imE i_call (pe_callS G_is_name (hr.mono (by decide)) (by exact rfl) g_is_name k_is_name b_is_name (fun σ => passAt takes0 σ) (imA i_cons (pa_cons (imE i_var (pv 1)) (imA i_nil pa_nil)))))))) (imA i_nil pa_nil)))) (by intro _; rfl))))))))) (pss_one (imS i_ret (ps_ret (imE i_bl pe_bl)))) (imSs i_next pss_nil)))
    (pss_one (imS i_ret (ps_ret (qe_cmp (om_eq hr.units) (imE i_lenSet (pe_lenSetG rfl (by rfl) z_len (by rfl) z_set (imE i_var (pv 0)))) (qe_cb cm_len fun _ q => pe_callB q (by rfl) z_len (by decide +kernel) (imA i_cons (pa_cons (imE i_var (pv 0)) (imA i_nil pa_nil)))) (nomark _)))))))
theorem ok_are_names (Z : Env K mg) : ∃ fd, FnOk P w K mg base (L2.CX P w) 2 (ga K "are_names") fd ["thing"] (spM K m_are_names) ∧ Binds K fd ["thing"] [] ∧ PySem.W.keepIn K (.ref (ga K "are_names")) = true := by
  obtain ⟨fd, F⟩ := Z.c.def_ 10 (d := d_are_names) rfl
  exact ⟨fd, okA_are_names Z F, F.bindsN fun _ _ _ _ _ _ us hl => match us, hl with | [_], _ => rfl, F.kp⟩
theorem sc_Named_init : FnScope ["self", "names"] ["self", "names"] (defScope s_Named_init) := ⟨rfl, rfl, rfl, by decide +kernel, rfl, by decide +kernel, by decide +kernel⟩
theorem okA_Named_init (Z : Env K mg) {fd : FuncData} (F : FunD K d_Named_init.name d_Named_init.qual d_Named_init.params d_Named_init.body d_Named_init.scope (d_Named_init.dvs K) (d_Named_init.kws K) (fAd K d_Named_init.at_) fd) : FnOk P w K mg base (L2.CX P w) 3 (ma K (ga K "Named") "__init__") fd ["self", "names"] (spI K ["names"] m_Named_init) := by
  obtain ⟨fd_are_names, G_are_names, b_are_names, k_are_names⟩ := ok_are_names (P := P) (w := w) (base := base) Z
  have g_NoFit := Z.glo 14 (x := "NoFit") rfl
  have g_are_names := Z.glo 22 (x := "are_names") rfl
  have z_list := Z.free 9 (x := "list") rfl
  have hc : Hc K := Z.x 0 (f := hcB) rfl
  have xc : Xc K := Z.x 1 (f := xcB) rfl
  have x_NoFit := exc_ok (Z.c.fact 17 (f := .exc "NoFit") rfl)
  refine F.ok (CX := (L2.CX P w)) sc_Named_init (fun vs H Q E h => len_I h) (fun cdv A outer s H vs Q E hr h => ?_)
  obtain ⟨x, dx, C, hL, q⟩ := run_I (N := ["self", "names"]) rfl (by decide) h
  refine ⟨cS K ⟨none, 0, some (x, dx, C), none⟩ (wE E) b_Named_init, ?_, q⟩
  exact (imSs i_seq (pss_cons (imS i_ifS (ps_if (PW.pt (imW i_uOr (pw_or (imT i_uNot (pt_not (imT i_tru (pt_truth (imE i_call (pe_callS G_are_names (hr.mono (by decide)) (by exact rfl) g_are_names k_are_names b_are_names (fun σ => passAt (takes_of rfl rfl rfl rfl) σ) (imA i_cons (pa_cons (imE i_var (pv 1)) (imA i_nil pa_nil))))) (by intro _; rfl))))) (pw_or1 (qt_cmp (om_eqE hr.units) (imE i_var (pv 1)) (imE i_lst (pe_lst (imA i_nil pa_nil))) (nomark _)))))) (pss_one (qs_raise (C := "NoFit") (by decide +kernel) rfl (takes_of rfl rfl rfl rfl) (pmk_own PySem.F.excBase_ValueError x_NoFit.1 g_NoFit x_NoFit.2.1 (raises_own x_NoFit.2.2.1 x_NoFit.2.2.2) (by exact rfl)))) (imSs i_next pss_nil)))
    (pss_one (imS (i_me hc rfl (allL hL 0 rfl)) (ps_fld (pv 0) (qe_cb (cm_list false) fun _ q => pe_callTy q (by rfl) z_list (by decide +kernel) (imA i_cons (pa_cons (imE i_var (pv 1)) (imA i_nil pa_nil)))) rfl)))))
theorem ok_Named_init (Z : Env K mg) : ∃ fd, FnOk P w K mg base (L2.CX P w) 3 (ma K (ga K "Named") "__init__") fd ["self", "names"] (spI K ["names"] m_Named_init) ∧ Binds K fd ["self", "names"] [] ∧ PySem.W.keepIn K (.ref (ma K (ga K "Named") "__init__")) = true := by
  obtain ⟨fd, F⟩ := Z.c.def_ 11 (d := d_Named_init) rfl
  exact ⟨fd, okA_Named_init Z F, F.bindsN fun _ _ _ _ _ _ us hl => match us, hl with | [_, _], _ => rfl, F.kp⟩
theorem sc_is_whole : FnScope ["thing"] ["thing"] (defScope s_is_whole) := ⟨rfl, rfl, rfl, by decide +kernel, rfl, by decide +kernel, by decide +kernel⟩
theorem okA_is_whole (Z : Env K mg) {fd : FuncData} (F : FunD K d_is_whole.name d_is_whole.qual d_is_whole.params d_is_whole.body d_is_whole.scope (d_is_whole.dvs K) (d_is_whole.kws K) (fAd K d_is_whole.at_) fd) : FnOk P w K mg base (L2.CX P w) 1 (ga K "is_whole") fd ["thing"] (spM K m_is_whole) := by
  have z_bool := Z.free 23 (x := "bool") rfl
  have z_int := Z.free 7 (x := "int") rfl
  have z_isinstance := Z.free 16 (x := "isinstance") rfl
  have hc : Hc K := Z.x 0 (f := hcB) rfl
  have xc : Xc K := Z.x 1 (f := xcB) rfl
  refine F.ok (CX := (L2.CX P w)) sc_is_whole (fun vs H Q E h => len_M h) (fun cdv A outer s H vs Q E hr h => ⟨cS K p0 (wE E) b_is_whole, ?_, run_M rfl h⟩)
  exact (pss_one (imS i_ret (ps_ret (imE i_and (pe_and (qe_cb (cm_isi hc) fun _ q => pe_callB q (by rfl) z_isinstance (by decide +kernel) (imA i_cons (pa_cons (imE i_var (pv 0)) (imA i_cons (pa_cons (imE i_ty (pe_bltn (v := .ty "int") (by rfl) z_int (by decide +kernel) rfl)) (imA i_nil pa_nil)))))) (pe_one (imE i_not (pe_not (qe_cb (cm_isi hc) fun _ q => pe_callB q (by rfl) z_isinstance (by decide +kernel) (imA i_cons (pa_cons (imE i_var (pv 0)) (imA i_cons (pa_cons (imE i_ty (pe_bltn (v := .ty "bool") (by rfl) z_bool (by decide +kernel) rfl)) (imA i_nil pa_nil))))))))))))))
theorem ok_is_whole (Z : Env K mg) : ∃ fd, FnOk P w K mg base (L2.CX P w) 1 (ga K "is_whole") fd ["thing"] (spM K m_is_whole) ∧ Binds K fd ["thing"] [] ∧ PySem.W.keepIn K (.ref (ga K "is_whole")) = true := by
  obtain ⟨fd, F⟩ := Z.c.def_ 12 (d := d_is_whole) rfl
  exact ⟨fd, okA_is_whole Z F, F.bindsN fun _ _ _ _ _ _ us hl => match us, hl with | [_], _ => rfl, F.kp⟩
theorem sc_is_weight : FnScope ["thing"] ["thing"] (defScope s_is_weight) := ⟨rfl, rfl, rfl, by decide +kernel, rfl, by decide +kernel, by decide +kernel⟩
theorem okA_is_weight (Z : Env K mg) {fd : FuncData} (F : FunD K d_is_weight.name d_is_weight.qual d_is_weight.params d_is_weight.body d_is_weight.scope (d_is_weight.dvs K) (d_is_weight.kws K) (fAd K d_is_weight.at_) fd) : FnOk P w K mg base (L2.CX P w) 2 (ga K "is_weight") fd ["thing"] (spM K m_is_weight) := by
  obtain ⟨fd_is_whole, G_is_whole, b_is_whole, k_is_whole⟩ := ok_is_whole (P := P) (w := w) (base := base) Z
  have g_is_whole := Z.glo 24 (x := "is_whole") rfl
  have hc : Hc K := Z.x 0 (f := hcB) rfl
  have xc : Xc K := Z.x 1 (f := xcB) rfl
  refine F.ok (CX := (L2.CX P w)) sc_is_weight (fun vs H Q E h => len_M h) (fun cdv A outer s H vs Q E hr h => ⟨cS K p0 (wE E) b_is_weight, ?_, run_M rfl h⟩)
  exact (pss_one (imS i_ret (ps_ret (imE i_and (pe_and (imE i_call (pe_callS G_is_whole (hr.mono (by decide)) (by exact rfl) g_is_whole k_is_whole b_is_whole (fun σ => passAt (takes_of rfl rfl rfl rfl) σ) (imA i_cons (pa_cons (imE i_var (pv 0)) (imA i_nil pa_nil))))) (pe_one (qe_cmp om_ge (imE i_var (pv 0)) (imE i_int pe_int) (nomark _))))))))
theorem ok_is_weight (Z : Env K mg) : ∃ fd, FnOk P w K mg base (L2.CX P w) 2 (ga K "is_weight") fd ["thing"] (spM K m_is_weight) ∧ Binds K fd ["thing"] [] ∧ PySem.W.keepIn K (.ref (ga K "is_weight")) = true := by
  obtain ⟨fd, F⟩ := Z.c.def_ 13 (d := d_is_weight) rfl
  exact ⟨fd, okA_is_weight Z F, F.bindsN fun _ _ _ _ _ _ us hl => match us, hl with | [_], _ => rfl, F.kp⟩
theorem sc_Least_init : FnScope ["self", "weight"] ["self", "weight"] (defScope s_Least_init) := ⟨rfl, rfl, rfl, by decide +kernel, rfl, by decide +kernel, by decide +kernel⟩
theorem okA_Least_init (Z : Env K mg) {fd : FuncData} (F : FunD K d_Least_init.name d_Least_init.qual d_Least_init.params d_Least_init.body d_Least_init.scope (d_Least_init.dvs K) (d_Least_init.kws K) (fAd K d_Least_init.at_) fd) : FnOk P w K mg base (L2.CX P w) 3 (ma K (ga K "Least") "__init__") fd ["self", "weight"] (spI K ["weight"] m_Least_init) := by
  obtain ⟨fd_is_weight, G_is_weight, b_is_weight, k_is_weight⟩ := ok_is_weight (P := P) (w := w) (base := base) Z
  have g_NoFit := Z.glo 14 (x := "NoFit") rfl
  have g_is_weight := Z.glo 25 (x := "is_weight") rfl
  have hc : Hc K := Z.x 0 (f := hcB) rfl
  have xc : Xc K := Z.x 1 (f := xcB) rfl
  have x_NoFit := exc_ok (Z.c.fact 17 (f := .exc "NoFit") rfl)
  refine F.ok (CX := (L2.CX P w)) sc_Least_init (fun vs H Q E h => len_I h) (fun cdv A outer s H vs Q E hr h => ?_)
  obtain ⟨x, dx, C, hL, q⟩ := run_I (N := ["self", "weight"]) rfl (by decide) h
  refine ⟨cS K ⟨none, 0, some (x, dx, C), none⟩ (wE E) b_Least_init, ?_, q⟩
  exact (imSs i_seq (pss_cons (imS i_ifS (ps_if (imT i_uNot (pt_not (imT i_tru (pt_truth (imE i_call (pe_callS G_is_weight (hr.mono (by decide)) (by exact rfl) g_is_weight k_is_weight b_is_weight (fun σ => passAt (takes_of rfl rfl rfl rfl) σ) (imA i_cons (pa_cons (imE i_var (pv 1)) (imA i_nil pa_nil))))) (by intro _; rfl))))) (pss_one (qs_raise (C := "NoFit") (by decide +kernel) rfl (takes_of rfl rfl rfl rfl) (pmk_own PySem.F.excBase_ValueError x_NoFit.1 g_NoFit x_NoFit.2.1 (raises_own x_NoFit.2.2.1 x_NoFit.2.2.2) (by exact rfl)))) (imSs i_next pss_nil)))
    (pss_one (imS (i_me hc rfl (allL hL 0 rfl)) (ps_fld (pv 0) (imE i_var (pv 1)) rfl)))))
theorem ok_Least_init (Z : Env K mg) : ∃ fd, FnOk P w K mg base (L2.CX P w) 3 (ma K (ga K "Least") "__init__") fd ["self", "weight"] (spI K ["weight"] m_Least_init) ∧ Binds K fd ["self", "weight"] [] ∧ PySem.W.keepIn K (.ref (ma K (ga K "Least") "__init__")) = true := by
  obtain ⟨fd, F⟩ := Z.c.def_ 14 (d := d_Least_init) rfl
  exact ⟨fd, okA_Least_init Z F, F.bindsN fun _ _ _ _ _ _ us hl => match us, hl with | [_, _], _ => rfl, F.kp⟩
theorem sc_Not_init : FnScope ["self", "fit"] ["self", "fit"] (defScope s_Not_init) := ⟨rfl, rfl, rfl, by decide +kernel, rfl, by decide +kernel, by decide +kernel⟩
theorem okA_Not_init (Z : Env K mg) {fd : FuncData} (F : FunD K d_Not_init.name d_Not_init.qual d_Not_init.params d_Not_init.body d_Not_init.scope (d_Not_init.dvs K) (d_Not_init.kws K) (fAd K d_Not_init.at_) fd) : FnOk P w K mg base (L2.CX P w) 1 (ma K (ga K "Not") "__init__") fd ["self", "fit"] (spI K ["fit"] m_Not_init) := by
  have g_Fit := Z.glo 13 (x := "Fit") rfl
  have g_NoFit := Z.glo 14 (x := "NoFit") rfl
  have z_isinstance := Z.free 16 (x := "isinstance") rfl
  have hc : Hc K := Z.x 0 (f := hcB) rfl
  have xc : Xc K := Z.x 1 (f := xcB) rfl
  have x_NoFit := exc_ok (Z.c.fact 17 (f := .exc "NoFit") rfl)
  refine F.ok (CX := (L2.CX P w)) sc_Not_init (fun vs H Q E h => len_I h) (fun cdv A outer s H vs Q E hr h => ?_)
  obtain ⟨x, dx, C, hL, q⟩ := run_I (N := ["self", "fit"]) rfl (by decide) h
  refine ⟨cS K ⟨none, 0, some (x, dx, C), none⟩ (wE E) b_Not_init, ?_, q⟩
  exact (imSs i_seq (pss_cons (imS i_ifS (ps_if (imT i_uNot (pt_not (imT i_tru (pt_truth (qe_cb (cm_isi hc) fun _ q => pe_callB q (by rfl) z_isinstance (by decide +kernel) (imA i_cons (pa_cons (imE i_var (pv 1)) (imA i_cons (pa_cons (imE i_cls (pe_glob rfl g_Fit rfl)) (imA i_nil pa_nil)))))) (by intro _; rfl))))) (pss_one (qs_raise (C := "NoFit") (by decide +kernel) rfl (takes_of rfl rfl rfl rfl) (pmk_own PySem.F.excBase_ValueError x_NoFit.1 g_NoFit x_NoFit.2.1 (raises_own x_NoFit.2.2.1 x_NoFit.2.2.2) (by exact rfl)))) (imSs i_next pss_nil)))
    (pss_one (imS (i_me hc rfl (allL hL 0 rfl)) (ps_fld (pv 0) (imE i_var (pv 1)) rfl)))))
theorem ok_Not_init (Z : Env K mg) : ∃ fd, FnOk P w K mg base (L2.CX P w) 1 (ma K (ga K "Not") "__init__") fd ["self", "fit"] (spI K ["fit"] m_Not_init) ∧ Binds K fd ["self", "fit"] [] ∧ PySem.W.keepIn K (.ref (ma K (ga K "Not") "__init__")) = true := by
  obtain ⟨fd, F⟩ := Z.c.def_ 15 (d := d_Not_init) rfl
  exact ⟨fd, okA_Not_init Z F, F.bindsN fun _ _ _ _ _ _ us hl => match us, hl with | [_, _], _ => rfl, F.kp⟩
theorem sc_law_made : FnScope ["_law_tree_here", "_law_part"] ["_law_tree_here"] (defScope s_law_made) := ⟨rfl, rfl, rfl, by decide +kernel, rfl, by decide +kernel, by decide +kernel⟩
theorem bi_law_made {fd : FuncData} (F : FunD K d_law_made.name d_law_made.qual d_law_made.params d_law_made.body d_law_made.scope (d_law_made.dvs K) (d_law_made.kws K) (fAd K d_law_made.at_) fd) : Binds K fd ["_law_tree_here"] [] := F.bindsN fun _ _ _ _ _ _ us hl => match us, hl with | [_], _ => rfl
theorem okA_law_made (d : Nat) (Z : Env K mg) {fd_law_made : FuncData} (F_law_made : FunD K d_law_made.name d_law_made.qual d_law_made.params d_law_made.body d_law_made.scope (d_law_made.dvs K) (d_law_made.kws K) (fAd K d_law_made.at_) fd_law_made) (G_law_made : FnOk P w K mg base (L2.CX P w) (4 + d) (ga K "_law_made") fd_law_made ["_law_tree_here"] (spM K (q_law_made d))) : FnOk P w K mg base (L2.CX P w) (4 + d + 1) (ga K "_law_made") fd_law_made ["_law_tree_here"] (spM K (q_law_made (d + 1))) := by
  have b_law_made := bi_law_made F_law_made
  have k_law_made := F_law_made.kp
  obtain ⟨fd_Least_init, G_Least_init, b_Least_init, k_Least_init⟩ := ok_Least_init (P := P) (w := w) (base := base) Z
  obtain ⟨fd_Named_init, G_Named_init, b_Named_init, k_Named_init⟩ := ok_Named_init (P := P) (w := w) (base := base) Z
  obtain ⟨fd_Not_init, G_Not_init, b_Not_init, k_Not_init⟩ := ok_Not_init (P := P) (w := w) (base := base) Z
  obtain ⟨fd_Several_init, G_Several_init, b_Several_init, k_Several_init⟩ := ok_Several_init (P := P) (w := w) (base := base) Z
  have g_Any := Z.glo 26 (x := "Any") rfl
  have g_Both := Z.glo 27 (x := "Both") rfl
  have g_Either := Z.glo 28 (x := "Either") rfl
  have g_Kind := Z.glo 29 (x := "Kind") rfl
  have g_Least := Z.glo 30 (x := "Least") rfl
  have g_Not := Z.glo 31 (x := "Not") rfl
  have g_Place := Z.glo 32 (x := "Place") rfl
  have g__law_made := Z.glo 33 (x := "_law_made") rfl
  have z_list := Z.free 9 (x := "list") rfl
  have hc : Hc K := Z.x 0 (f := hcB) rfl
  have xc : Xc K := Z.x 1 (f := xcB) rfl
  have m0_Any := mk0B_ok (Z.x 2 (f := fun K => mk0B K (ga K "Any")) rfl)
  have mk_Both := mkB_ok (Z.x 3 (f := fun K => mkB K (ga K "Both") (ma K (ga K "Several") "__init__")) rfl)
  have mk_Either := mkB_ok (Z.x 4 (f := fun K => mkB K (ga K "Either") (ma K (ga K "Several") "__init__")) rfl)
  have mk_Kind := mkB_ok (Z.x 5 (f := fun K => mkB K (ga K "Kind") (ma K (ga K "Named") "__init__")) rfl)
  have mk_Least := mkr_ok (Z.c.fact 34 (f := .mkr "Least") rfl)
  have mk_Not := mkr_ok (Z.c.fact 35 (f := .mkr "Not") rfl)
  have mk_Place := mkB_ok (Z.x 6 (f := fun K => mkB K (ga K "Place") (ma K (ga K "Named") "__init__")) rfl)
  rw [q_law_made_s]
  refine F_law_made.ok (CX := (L2.CX P w)) sc_law_made (fun vs H Q E h => len_M h) (fun cdv A outer s H vs Q E hr h => ⟨cS K p0 (wE E) (Mo.b_law_made (q_law_made d)), ?_, run_M rfl h⟩)
  exact (imSs i_seq (pss_cons (imS i_ifS (ps_if (qt_cmp (om_eq hr.units) (qe_ix (imE i_var (pv 0)) (imE i_int pe_int) (fun _ _ => rfl)) (imE i_str pe_str) (nomark _)) (pss_one (imS i_ret (ps_ret (imE (i_make0 (by decide +kernel)) (pe_make00 m0_Any (by exact rfl) g_Any))))) (imSs i_next pss_nil)))
    (imSs i_seq (pss_cons (imS i_ifS (ps_if (qt_cmp (om_eq hr.units) (qe_ix (imE i_var (pv 0)) (imE i_int pe_int) (fun _ _ => rfl)) (imE i_str pe_str) (nomark _)) (pss_one (imS i_ret (ps_ret (imE (i_make (L := ["names"]) (by decide +kernel) (by decide +kernel)) (pe_makeS mk_Kind G_Named_init (hr.mono (by omega)) (by exact rfl) g_Kind b_Named_init (fun σ => passAt (takes_of rfl rfl rfl rfl) σ) (imA i_cons (pa_cons (qe_cb (cm_list false) fun _ q => pe_callTy q (by rfl) z_list (by decide +kernel) (imA i_cons (pa_cons (qe_ix (imE i_var (pv 0)) (imE i_int pe_int) (fun _ _ => rfl)) (imA i_nil pa_nil)))) (imA i_nil pa_nil)))))))) (imSs i_next pss_nil)))
    (imSs i_seq (pss_cons (imS i_ifS (ps_if (qt_cmp (om_eq hr.units) (qe_ix (imE i_var (pv 0)) (imE i_int pe_int) (fun _ _ => rfl)) (imE i_str pe_str) (nomark _)) (pss_one (imS i_ret (ps_ret (imE (i_make (L := ["names"]) (by decide +kernel) (by decide +kernel)) (pe_makeS mk_Place G_Named_init (hr.mono (by omega)) (by exact rfl) g_Place b_Named_init (fun σ => passAt (takes_of rfl rfl rfl rfl) σ) (imA i_cons (pa_cons (qe_cb (cm_list false) fun _ q => pe_callTy q (by rfl) z_list (by decide +kernel) (imA i_cons (pa_cons (qe_ix (imE i_var (pv 0)) (imE i_int pe_int) (fun _ _ => rfl)) (imA i_nil pa_nil)))) (imA i_nil pa_nil)))))))) (imSs i_next pss_nil)))
    (imSs i_seq (pss_cons (imS i_ifS (ps_if (qt_cmp (om_eq hr.units) (qe_ix (imE i_var (pv 0)) (imE i_int pe_int) (fun _ _ => rfl)) (imE i_str pe_str) (nomark _)) (pss_one (imS i_ret (ps_ret (imE (i_make (L := ["weight"]) (by decide +kernel) (by decide +kernel)) (pe_makeS mk_Least G_Least_init (hr.mono (by omega)) (by exact rfl) g_Least b_Least_init (fun σ => passAt (takes_of rfl rfl rfl rfl) σ) (imA i_cons (pa_cons (qe_ix (imE i_var (pv 0)) (imE i_int pe_int) (fun _ _ => rfl)) (imA i_nil pa_nil)))))))) (imSs i_next pss_nil)))
    (imSs i_seq (pss_cons (imS i_ifS (ps_if (qt_cmp (om_eq hr.units) (qe_ix (imE i_var (pv 0)) (imE i_int pe_int) (fun _ _ => rfl)) (imE i_str pe_str) (nomark _)) (pss_one (imS i_ret (ps_ret (imE (i_make (L := ["fit"]) (by decide +kernel) (by decide +kernel)) (pe_makeS mk_Not G_Not_init (hr.mono (by omega)) (by exact rfl) g_Not b_Not_init (fun σ => passAt (takes_of rfl rfl rfl rfl) σ) (imA i_cons (pa_cons (imE i_call (pe_callS G_law_made (hr.mono (by omega)) (by exact rfl) g__law_made k_law_made b_law_made (fun σ => passAt (takes_of rfl rfl rfl rfl) σ) (imA i_cons (pa_cons (qe_ix (imE i_var (pv 0)) (imE i_int pe_int) (fun _ _ => rfl)) (imA i_nil pa_nil))))) (imA i_nil pa_nil)))))))) (imSs i_next pss_nil)))
    (imSs i_seq (pss_cons (imS i_ifS (ps_if (qt_cmp (om_eq hr.units) (qe_ix (imE i_var (pv 0)) (imE i_int pe_int) (fun _ _ => rfl)) (imE i_str pe_str) (nomark _)) (pss_one (imS i_ret (ps_ret (imE (i_make (L := ["fits"]) (by decide +kernel) (by decide +kernel)) (pe_makeS mk_Both G_Several_init (hr.mono (by omega)) (by exact rfl) g_Both b_Several_init (fun σ => passAt (takes_of rfl rfl rfl rfl) σ) (imA i_cons (pa_cons (imE (i_lc (fun _ _ => ⟨.inl rfl, .inl ⟨rfl, rfl⟩⟩) (fun _ h => h)) (pe_lc (own := [("_law_part", 1)]) rfl sc_law_made.nd (qi_D (qe_ix (imE i_var (pv 0)) (imE i_int pe_int) (fun _ _ => rfl))) (blkOk_by (own := [("_law_part", 1)]) (N := ["_law_tree_here", "_law_part"]) (sc := defScope s_law_made) (by decide +kernel)) (fun _ _ _ _ _ => (imG (i_hNm ⟨.inl rfl, .inl ⟨rfl, rfl⟩⟩) (pg_name (i := 1) sc_law_made.nd rfl (Or.inl rfl)))) (fun _ _ _ _ _ => (imTs i_uYes pts_nil)) (fun _ _ _ _ _ => (imE i_call (pe_callS G_law_made (hr.mono (by omega)) (by exact rfl) g__law_made k_law_made b_law_made (fun σ => passAt takes0 σ) (imA i_cons (pa_cons (imE i_var (pv 1)) (imA i_nil pa_nil)))))))) (imA i_nil pa_nil)))))))) (imSs i_next pss_nil)))
    (pss_one (imS i_ret (ps_ret (imE (i_make (L := ["fits"]) (by decide +kernel) (by decide +kernel)) (pe_makeS mk_Either G_Several_init (hr.mono (by omega)) (by exact rfl) g_Either b_Several_init (fun σ => passAt (takes_of rfl rfl rfl rfl) σ) (imA i_cons (pa_cons (imE (i_lc (fun _ _ => ⟨.inl rfl, .inl ⟨rfl, rfl⟩⟩) (fun _ h => h)) (pe_lc (own := [("_law_part", 1)]) rfl sc_law_made.nd (qi_D (qe_ix (imE i_var (pv 0)) (imE i_int pe_int) (fun _ _ => rfl))) (blkOk_by (own := [("_law_part", 1)]) (N := ["_law_tree_here", "_law_part"]) (sc := defScope s_law_made) (by decide +kernel)) (fun _ _ _ _ _ => (imG (i_hNm ⟨.inl rfl, .inl ⟨rfl, rfl⟩⟩) (pg_name (i := 1) sc_law_made.nd rfl (Or.inl rfl)))) (fun _ _ _ _ _ => (imTs i_uYes pts_nil)) (fun _ _ _ _ _ => (imE i_call (pe_callS G_law_made (hr.mono (by omega)) (by exact rfl) g__law_made k_law_made b_law_made (fun σ => passAt takes0 σ) (imA i_cons (pa_cons (imE i_var (pv 1)) (imA i_nil pa_nil)))))))) (imA i_nil pa_nil))))))))))))))))))))
theorem rec_law_made (Z : Env K mg) {fd_law_made : FuncData} (F_law_made : FunD K d_law_made.name d_law_made.qual d_law_made.params d_law_made.body d_law_made.scope (d_law_made.dvs K) (d_law_made.kws K) (fAd K d_law_made.at_) fd_law_made) : ∀ d : Nat, FnOk P w K mg base (L2.CX P w) (4 + d) (ga K "_law_made") fd_law_made ["_law_tree_here"] (spM K (q_law_made d))
  | 0 => vac_ok
  | d + 1 => by
    have G_law_made := rec_law_made Z F_law_made d
    exact okA_law_made d Z F_law_made G_law_made
theorem ok_law_made (Z : Env K mg) : ∃ fd, FnOk P w K mg base (L2.CX P w) 54 (ga K "_law_made") fd ["_law_tree_here"] (spM K m_law_made) ∧ Binds K fd ["_law_tree_here"] [] ∧ PySem.W.keepIn K (.ref (ga K "_law_made")) = true := by
  obtain ⟨fd_law_made, F_law_made⟩ := Z.c.def_ 16 (d := d_law_made) rfl
  exact ⟨fd_law_made, (rec_law_made Z F_law_made 50), bi_law_made F_law_made, F_law_made.kp⟩
theorem sc_word_of : FnScope ["number", "word"] ["number"] (defScope s_word_of) := ⟨rfl, rfl, rfl, by decide +kernel, rfl, by decide +kernel, by decide +kernel⟩
theorem okA_word_of (Z : Env K mg) {fd : FuncData} (F : FunD K d_word_of.name d_word_of.qual d_word_of.params d_word_of.body d_word_of.scope (d_word_of.dvs K) (d_word_of.kws K) (fAd K d_word_of.at_) fd) : FnOk P w K mg base (L2.CX P w) 1 (ga K "word_of") fd ["number"] (spM K m_word_of) := by
  have g_LETTERS := Z.str 20 (x := "LETTERS") (z := "abcdefghijklmnopqrstuvwxyz") rfl
  have hc : Hc K := Z.x 0 (f := hcB) rfl
  have xc : Xc K := Z.x 1 (f := xcB) rfl
  refine F.ok (CX := (L2.CX P w)) sc_word_of (fun vs H Q E h => len_M h) (fun cdv A outer s H vs Q E hr h => ⟨cS K p0 (wE E) b_word_of, ?_, run_M rfl h⟩)
  exact (imSs i_seq (pss_cons (imS (i_asgN ⟨.inl rfl, .inl ⟨rfl, rfl⟩⟩ (fun _ _ _ h => h)) (ps_set (i := 1) sc_word_of.nd rfl (Or.inl rfl) (qe_ix (imE i_str (pe_glob rfl (Classical.choose_spec g_LETTERS) ⟨_, rfl⟩)) (qe_op om_mod (imE i_var (pv 0)) (imE i_int pe_int)) (fun _ _ => rfl))))
    (imSs i_seq (pss_cons (imS i_while (ps_while (passes_of rfl) (qt_cmp om_ge (imE i_var (pv 0)) (imE i_int pe_int) (nomark _))
    (imSs i_seq (pss_cons (imS (i_asgN ⟨.inl rfl, .inl ⟨rfl, rfl⟩⟩ (fun _ _ _ h => h)) (ps_set (i := 0) sc_word_of.nd rfl (Or.inl rfl) (qe_op om_div (imE i_var (pv 0)) (imE i_int pe_int))))
    (pss_one (imS (i_asgN ⟨.inl rfl, .inl ⟨rfl, rfl⟩⟩ (fun _ _ _ h => h)) (ps_set (i := 1) sc_word_of.nd rfl (Or.inl rfl) (qe_op om_add (qe_ix (imE i_str (pe_glob rfl (Classical.choose_spec g_LETTERS) ⟨_, rfl⟩)) (qe_op om_mod (imE i_var (pv 0)) (imE i_int pe_int)) (fun _ _ => rfl)) (imE i_var (pv 1))))))))))
    (pss_one (imS i_ret (ps_ret (imE i_var (pv 1)))))))))
theorem ok_word_of (Z : Env K mg) : ∃ fd, FnOk P w K mg base (L2.CX P w) 1 (ga K "word_of") fd ["number"] (spM K m_word_of) ∧ Binds K fd ["number"] [] ∧ PySem.W.keepIn K (.ref (ga K "word_of")) = true := by
  obtain ⟨fd, F⟩ := Z.c.def_ 17 (d := d_word_of) rfl
  exact ⟨fd, okA_word_of Z F, F.bindsN fun _ _ _ _ _ _ us hl => match us, hl with | [_], _ => rfl, F.kp⟩
theorem sc_name_beside : FnScope ["names", "number"] ["names"] (defScope s_name_beside) := ⟨rfl, rfl, rfl, by decide +kernel, rfl, by decide +kernel, by decide +kernel⟩
theorem okA_name_beside (Z : Env K mg) {fd : FuncData} (F : FunD K d_name_beside.name d_name_beside.qual d_name_beside.params d_name_beside.body d_name_beside.scope (d_name_beside.dvs K) (d_name_beside.kws K) (fAd K d_name_beside.at_) fd) : FnOk P w K mg base (L2.CX P w) 2 (ga K "name_beside") fd ["names"] (spM K m_name_beside) := by
  obtain ⟨fd_word_of, G_word_of, b_word_of, k_word_of⟩ := ok_word_of (P := P) (w := w) (base := base) Z
  have g_word_of := Z.glo 36 (x := "word_of") rfl
  have hc : Hc K := Z.x 0 (f := hcB) rfl
  have xc : Xc K := Z.x 1 (f := xcB) rfl
  refine F.ok (CX := (L2.CX P w)) sc_name_beside (fun vs H Q E h => len_M h) (fun cdv A outer s H vs Q E hr h => ⟨cS K p0 (wE E) b_name_beside, ?_, run_M rfl h⟩)
  exact (imSs i_seq (pss_cons (imS (i_asgN ⟨.inl rfl, .inl ⟨rfl, rfl⟩⟩ (fun _ _ _ h => h)) (ps_set (i := 1) sc_name_beside.nd rfl (Or.inl rfl) (imE i_int pe_int)))
    (imSs i_seq (pss_cons (imS i_while (ps_while (passes_of rfl) (qt_cmp om_in (imE i_call (pe_callS G_word_of (hr.mono (by decide)) (by exact rfl) g_word_of k_word_of b_word_of (fun σ => passAt (takes_of rfl rfl rfl rfl) σ) (imA i_cons (pa_cons (imE i_var (pv 1)) (imA i_nil pa_nil))))) (imE i_var (pv 0)) (by rfl))
    (pss_one (imS (i_asgN ⟨.inl rfl, .inl ⟨rfl, rfl⟩⟩ (fun _ _ _ h => h)) (ps_set (i := 1) sc_name_beside.nd rfl (Or.inl rfl) (qe_op om_add (imE i_var (pv 1)) (imE i_int pe_int)))))))
    (pss_one (imS i_ret (ps_ret (imE i_call (pe_callS G_word_of (hr.mono (by decide)) (by exact rfl) g_word_of k_word_of b_word_of (fun σ => passAt (takes_of rfl rfl rfl rfl) σ) (imA i_cons (pa_cons (imE i_var (pv 1)) (imA i_nil pa_nil))))))))))))
theorem ok_name_beside (Z : Env K mg) : ∃ fd, FnOk P w K mg base (L2.CX P w) 2 (ga K "name_beside") fd ["names"] (spM K m_name_beside) ∧ Binds K fd ["names"] [] ∧ PySem.W.keepIn K (.ref (ga K "name_beside")) = true := by
  obtain ⟨fd, F⟩ := Z.c.def_ 18 (d := d_name_beside) rfl
  exact ⟨fd, okA_name_beside Z F, F.bindsN fun _ _ _ _ _ _ us hl => match us, hl with | [_], _ => rfl, F.kp⟩
theorem sc_with_one_more : FnScope ["names"] ["names"] (defScope s_with_one_more) := ⟨rfl, rfl, rfl, by decide +kernel, rfl, by decide +kernel, by decide +kernel⟩
theorem okA_with_one_more (Z : Env K mg) {fd : FuncData} (F : FunD K d_with_one_more.name d_with_one_more.qual d_with_one_more.params d_with_one_more.body d_with_one_more.scope (d_with_one_more.dvs K) (d_with_one_more.kws K) (fAd K d_with_one_more.at_) fd) : FnOk P w K mg base (L2.CX P w) 3 (ga K "with_one_more") fd ["names"] (spM K m_with_one_more) := by
  obtain ⟨fd_name_beside, G_name_beside, b_name_beside, k_name_beside⟩ := ok_name_beside (P := P) (w := w) (base := base) Z
  have g_name_beside := Z.glo 37 (x := "name_beside") rfl
  have z_set := Z.free 11 (x := "set") rfl
  have z_sorted := Z.free 12 (x := "sorted") rfl
  have hc : Hc K := Z.x 0 (f := hcB) rfl
  have xc : Xc K := Z.x 1 (f := xcB) rfl
  refine F.ok (CX := (L2.CX P w)) sc_with_one_more (fun vs H Q E h => len_M h) (fun cdv A outer s H vs Q E hr h => ⟨cS K p0 (wE E) b_with_one_more, ?_, run_M rfl h⟩)
  exact (pss_one (imS i_ret (ps_ret (qe_op om_add (imE i_sortS (pe_sortSet rfl (by rfl) z_sorted (by rfl) z_set (imE i_var (pv 0)))) (imE i_lst (pe_lst (imA i_cons (pa_cons (imE i_call (pe_callS G_name_beside (hr.mono (by decide)) (by exact rfl) g_name_beside k_name_beside b_name_beside (fun σ => passAt (takes_of rfl rfl rfl rfl) σ) (imA i_cons (pa_cons (imE i_var (pv 0)) (imA i_nil pa_nil))))) (imA i_nil pa_nil)))))))))
theorem ok_with_one_more (Z : Env K mg) : ∃ fd, FnOk P w K mg base (L2.CX P w) 3 (ga K "with_one_more") fd ["names"] (spM K m_with_one_more) ∧ Binds K fd ["names"] [] ∧ PySem.W.keepIn K (.ref (ga K "with_one_more")) = true := by
  obtain ⟨fd, F⟩ := Z.c.def_ 19 (d := d_with_one_more) rfl
  exact ⟨fd, okA_with_one_more Z F, F.bindsN fun _ _ _ _ _ _ us hl => match us, hl with | [_], _ => rfl, F.kp⟩
theorem sc_Turns_init : FnScope ["self"] ["self"] (defScope s_Turns_init) := ⟨rfl, rfl, rfl, by decide +kernel, rfl, by decide +kernel, by decide +kernel⟩
theorem okA_Turns_init (Z : Env K mg) {fd : FuncData} (F : FunD K d_Turns_init.name d_Turns_init.qual d_Turns_init.params d_Turns_init.body d_Turns_init.scope (d_Turns_init.dvs K) (d_Turns_init.kws K) (fAd K d_Turns_init.at_) fd) : FnOk P w K mg base (L2.CX P w) 1 (ma K (ga K "Turns") "__init__") fd ["self"] (spI K ["kinds", "places", "weights"] m_Turns_init) := by
  have hc : Hc K := Z.x 0 (f := hcB) rfl
  have xc : Xc K := Z.x 1 (f := xcB) rfl
  refine F.ok (CX := (L2.CX P w)) sc_Turns_init (fun vs H Q E h => len_I h) (fun cdv A outer s H vs Q E hr h => ?_)
  obtain ⟨x, dx, C, hL, q⟩ := run_I (N := ["self"]) rfl (by decide) h
  refine ⟨cS K ⟨none, 0, some (x, dx, C), none⟩ (wE E) b_Turns_init, ?_, q⟩
  exact (imSs i_seq (pss_cons (imS (i_me hc rfl (allL hL 0 rfl)) (ps_fld (pv 0) (imE i_lst (pe_lst (imA i_nil pa_nil))) rfl))
    (imSs i_seq (pss_cons (imS (i_me hc rfl (allL hL 1 rfl)) (ps_fld (pv 0) (imE i_lst (pe_lst (imA i_nil pa_nil))) rfl))
    (pss_one (imS (i_me hc rfl (allL hL 2 rfl)) (ps_fld (pv 0) (imE i_lst (pe_lst (imA i_cons (pa_cons (imE i_int pe_int) (imA i_nil pa_nil))))) rfl)))))))
theorem ok_Turns_init (Z : Env K mg) : ∃ fd, FnOk P w K mg base (L2.CX P w) 1 (ma K (ga K "Turns") "__init__") fd ["self"] (spI K ["kinds", "places", "weights"] m_Turns_init) ∧ Binds K fd ["self"] [] ∧ PySem.W.keepIn K (.ref (ma K (ga K "Turns") "__init__")) = true := by
  obtain ⟨fd, F⟩ := Z.c.def_ 20 (d := d_Turns_init) rfl
  exact ⟨fd, okA_Turns_init Z F, F.bindsN fun _ _ _ _ _ _ us hl => match us, hl with | [_], _ => rfl, F.kp⟩
theorem sc_Happening_init : FnScope ["self", "kind", "place", "weight"] ["self", "kind", "place", "weight"] (defScope s_Happening_init) := ⟨rfl, rfl, rfl, by decide +kernel, rfl, by decide +kernel, by decide +kernel⟩
theorem okA_Happening_init (Z : Env K mg) {fd : FuncData} (F : FunD K d_Happening_init.name d_Happening_init.qual d_Happening_init.params d_Happening_init.body d_Happening_init.scope (d_Happening_init.dvs K) (d_Happening_init.kws K) (fAd K d_Happening_init.at_) fd) : FnOk P w K mg base (L2.CX P w) 3 (ma K (ga K "Happening") "__init__") fd ["self", "kind", "place", "weight"] (spI K ["kind", "place", "weight"] m_Happening_init) := by
  obtain ⟨fd_is_name, G_is_name, b_is_name, k_is_name⟩ := ok_is_name (P := P) (w := w) (base := base) Z
  obtain ⟨fd_is_weight, G_is_weight, b_is_weight, k_is_weight⟩ := ok_is_weight (P := P) (w := w) (base := base) Z
  have g_NoHappening := Z.glo 38 (x := "NoHappening") rfl
  have g_is_name := Z.glo 21 (x := "is_name") rfl
  have g_is_weight := Z.glo 25 (x := "is_weight") rfl
  have hc : Hc K := Z.x 0 (f := hcB) rfl
  have xc : Xc K := Z.x 1 (f := xcB) rfl
  have x_NoHappening := exc_ok (Z.c.fact 39 (f := .exc "NoHappening") rfl)
  refine F.ok (CX := (L2.CX P w)) sc_Happening_init (fun vs H Q E h => len_I h) (fun cdv A outer s H vs Q E hr h => ?_)
  obtain ⟨x, dx, C, hL, q⟩ := run_I (N := ["self", "kind", "place", "weight"]) rfl (by decide) h
  refine ⟨cS K ⟨none, 0, some (x, dx, C), none⟩ (wE E) b_Happening_init, ?_, q⟩
  exact (imSs i_seq (pss_cons (imS i_ifS (ps_if (PW.pt (imW i_uOr (pw_or (imT i_uNot (pt_not (imT i_tru (pt_truth (imE i_call (pe_callS G_is_name (hr.mono (by decide)) (by exact rfl) g_is_name k_is_name b_is_name (fun σ => passAt (takes_of rfl rfl rfl rfl) σ) (imA i_cons (pa_cons (imE i_var (pv 1)) (imA i_nil pa_nil))))) (by intro _; rfl))))) (imW i_uOr (pw_or (imT i_uNot (pt_not (imT i_tru (pt_truth (imE i_call (pe_callS G_is_name (hr.mono (by decide)) (by exact rfl) g_is_name k_is_name b_is_name (fun σ => passAt (takes_of rfl rfl rfl rfl) σ) (imA i_cons (pa_cons (imE i_var (pv 2)) (imA i_nil pa_nil))))) (by intro _; rfl))))) (pw_or1 (imT i_uNot (pt_not (imT i_tru (pt_truth (imE i_call (pe_callS G_is_weight (hr.mono (by decide)) (by exact rfl) g_is_weight k_is_weight b_is_weight (fun σ => passAt (takes_of rfl rfl rfl rfl) σ) (imA i_cons (pa_cons (imE i_var (pv 3)) (imA i_nil pa_nil))))) (by intro _; rfl))))))))))) (pss_one (qs_raise (C := "NoHappening") (by decide +kernel) rfl (takes_of rfl rfl rfl rfl) (pmk_own PySem.F.excBase_ValueError x_NoHappening.1 g_NoHappening x_NoHappening.2.1 (raises_own x_NoHappening.2.2.1 x_NoHappening.2.2.2) (by exact rfl)))) (imSs i_next pss_nil)))
    (imSs i_seq (pss_cons (imS (i_me hc rfl (allL hL 0 rfl)) (ps_fld (pv 0) (imE i_var (pv 1)) rfl))
    (imSs i_seq (pss_cons (imS (i_me hc rfl (allL hL 1 rfl)) (ps_fld (pv 0) (imE i_var (pv 2)) rfl))
    (pss_one (imS (i_me hc rfl (allL hL 2 rfl)) (ps_fld (pv 0) (imE i_var (pv 3)) rfl)))))))))
theorem ok_Happening_init (Z : Env K mg) : ∃ fd, FnOk P w K mg base (L2.CX P w) 3 (ma K (ga K "Happening") "__init__") fd ["self", "kind", "place", "weight"] (spI K ["kind", "place", "weight"] m_Happening_init) ∧ Binds K fd ["self", "kind", "place", "weight"] [] ∧ PySem.W.keepIn K (.ref (ma K (ga K "Happening") "__init__")) = true := by
  obtain ⟨fd, F⟩ := Z.c.def_ 21 (d := d_Happening_init) rfl
  exact ⟨fd, okA_Happening_init Z F, F.bindsN fun _ _ _ _ _ _ us hl => match us, hl with | [_, _, _, _], _ => rfl, F.kp⟩
theorem sc_Turns_look_at : FnScope ["self", "fit"] ["self", "fit"] (defScope s_Turns_look_at) := ⟨rfl, rfl, rfl, by decide +kernel, rfl, by decide +kernel, by decide +kernel⟩
theorem okA_Turns_look_at (Z : Env K mg) {fd : FuncData} (F : FunD K d_Turns_look_at.name d_Turns_look_at.qual d_Turns_look_at.params d_Turns_look_at.body d_Turns_look_at.scope (d_Turns_look_at.dvs K) (d_Turns_look_at.kws K) (fAd K d_Turns_look_at.at_) fd) : FnOk P w K mg base (L2.CX P w) 1 (ma K (ga K "Turns") "look_at") fd ["self", "fit"] (spM K m_Turns_look_at) := by
  have g_Kind := Z.glo 29 (x := "Kind") rfl
  have g_Least := Z.glo 30 (x := "Least") rfl
  have g_Place := Z.glo 32 (x := "Place") rfl
  have z_isinstance := Z.free 16 (x := "isinstance") rfl
  have hc : Hc K := Z.x 0 (f := hcB) rfl
  have xc : Xc K := Z.x 1 (f := xcB) rfl
  refine F.ok (CX := (L2.CX P w)) sc_Turns_look_at (fun vs H Q E h => len_M h) (fun cdv A outer s H vs Q E hr h => ⟨cS K p0 (wE E) b_Turns_look_at, ?_, run_M rfl h⟩)
  exact (imSs i_seq (pss_cons (imS i_ifS (ps_if (imT i_tru (pt_truth (qe_cb (cm_isi hc) fun _ q => pe_callB q (by rfl) z_isinstance (by decide +kernel) (imA i_cons (pa_cons (imE i_var (pv 1)) (imA i_cons (pa_cons (imE i_cls (pe_glob rfl g_Kind rfl)) (imA i_nil pa_nil)))))) (by intro _; rfl))) (pss_one (imS i_drop (ps_expr (imE i_ext (pe_bm PySem.F.plainAttrs_list PySem.F.slot_list_extend PySem.F.type_list_extend mt_extend (imE (i_fld hc) (pe_fld (imE i_var (pv 0)) rfl)) (pa_cons (imE (i_fld hc) (pe_fld (imE i_var (pv 1)) rfl)) pa_nil)))))) (imSs i_next pss_nil)))
    (imSs i_seq (pss_cons (imS i_ifS (ps_if (imT i_tru (pt_truth (qe_cb (cm_isi hc) fun _ q => pe_callB q (by rfl) z_isinstance (by decide +kernel) (imA i_cons (pa_cons (imE i_var (pv 1)) (imA i_cons (pa_cons (imE i_cls (pe_glob rfl g_Place rfl)) (imA i_nil pa_nil)))))) (by intro _; rfl))) (pss_one (imS i_drop (ps_expr (imE i_ext (pe_bm PySem.F.plainAttrs_list PySem.F.slot_list_extend PySem.F.type_list_extend mt_extend (imE (i_fld hc) (pe_fld (imE i_var (pv 0)) rfl)) (pa_cons (imE (i_fld hc) (pe_fld (imE i_var (pv 1)) rfl)) pa_nil)))))) (imSs i_next pss_nil)))
    (pss_one (imS i_ifS (ps_if (imT i_tru (pt_truth (qe_cb (cm_isi hc) fun _ q => pe_callB q (by rfl) z_isinstance (by decide +kernel) (imA i_cons (pa_cons (imE i_var (pv 1)) (imA i_cons (pa_cons (imE i_cls (pe_glob rfl g_Least rfl)) (imA i_nil pa_nil)))))) (by intro _; rfl))) (pss_one (imS i_drop (ps_expr (imE i_app (pe_bm PySem.F.plainAttrs_list PySem.F.slot_list_append PySem.F.type_list_append mt_append (imE (i_fld hc) (pe_fld (imE i_var (pv 0)) rfl)) (pa_cons (imE (i_fld hc) (pe_fld (imE i_var (pv 1)) rfl)) pa_nil)))))) (imSs i_next pss_nil))))))))
theorem ok_Turns_look_at (Z : Env K mg) : ∃ fd, FnOk P w K mg base (L2.CX P w) 1 (ma K (ga K "Turns") "look_at") fd ["self", "fit"] (spM K m_Turns_look_at) ∧ Binds K fd ["self", "fit"] [] ∧ PySem.W.keepIn K (.ref (ma K (ga K "Turns") "look_at")) = true := by
  obtain ⟨fd, F⟩ := Z.c.def_ 22 (d := d_Turns_look_at) rfl
  exact ⟨fd, okA_Turns_look_at Z F, F.bindsN fun _ _ _ _ _ _ us hl => match us, hl with | [_, _], _ => rfl, F.kp⟩
theorem sc_Several_within : FnScope ["self"] ["self"] (defScope s_Several_within) := ⟨rfl, rfl, rfl, by decide +kernel, rfl, by decide +kernel, by decide +kernel⟩
theorem okA_Several_within (Z : Env K mg) {fd : FuncData} (F : FunD K d_Several_within.name d_Several_within.qual d_Several_within.params d_Several_within.body d_Several_within.scope (d_Several_within.dvs K) (d_Several_within.kws K) (fAd K d_Several_within.at_) fd) : FnOk P w K mg base (L2.CX P w) 1 (ma K (ga K "Several") "within") fd ["self"] (spM K m_Several_within) := by
  have z_list := Z.free 9 (x := "list") rfl
  have hc : Hc K := Z.x 0 (f := hcB) rfl
  have xc : Xc K := Z.x 1 (f := xcB) rfl
  refine F.ok (CX := (L2.CX P w)) sc_Several_within (fun vs H Q E h => len_M h) (fun cdv A outer s H vs Q E hr h => ⟨cS K p0 (wE E) b_Several_within, ?_, run_M rfl h⟩)
  exact (pss_one (imS i_ret (ps_ret (qe_cb (cm_list false) fun _ q => pe_callTy q (by rfl) z_list (by decide +kernel) (imA i_cons (pa_cons (imE (i_fld hc) (pe_fld (imE i_var (pv 0)) rfl)) (imA i_nil pa_nil)))))))
theorem ok_Several_within (Z : Env K mg) : ∃ fd, FnOk P w K mg base (L2.CX P w) 1 (ma K (ga K "Several") "within") fd ["self"] (spM K m_Several_within) ∧ Binds K fd ["self"] [] ∧ PySem.W.keepIn K (.ref (ma K (ga K "Several") "within")) = true := by
  obtain ⟨fd, F⟩ := Z.c.def_ 23 (d := d_Several_within) rfl
  exact ⟨fd, okA_Several_within Z F, F.bindsN fun _ _ _ _ _ _ us hl => match us, hl with | [_], _ => rfl, F.kp⟩
theorem sc_Fit_within : FnScope ["self"] ["self"] (defScope s_Fit_within) := ⟨rfl, rfl, rfl, by decide +kernel, rfl, by decide +kernel, by decide +kernel⟩
theorem okA_Fit_within (Z : Env K mg) {fd : FuncData} (F : FunD K d_Fit_within.name d_Fit_within.qual d_Fit_within.params d_Fit_within.body d_Fit_within.scope (d_Fit_within.dvs K) (d_Fit_within.kws K) (fAd K d_Fit_within.at_) fd) : FnOk P w K mg base (L2.CX P w) 1 (ma K (ga K "Fit") "within") fd ["self"] (spM K m_Fit_within) := by
  have hc : Hc K := Z.x 0 (f := hcB) rfl
  have xc : Xc K := Z.x 1 (f := xcB) rfl
  refine F.ok (CX := (L2.CX P w)) sc_Fit_within (fun vs H Q E h => len_M h) (fun cdv A outer s H vs Q E hr h => ⟨cS K p0 (wE E) b_Fit_within, ?_, run_M rfl h⟩)
  exact (pss_one (imS i_ret (ps_ret (imE i_lst (pe_lst (imA i_nil pa_nil))))))
theorem ok_Fit_within (Z : Env K mg) : ∃ fd, FnOk P w K mg base (L2.CX P w) 1 (ma K (ga K "Fit") "within") fd ["self"] (spM K m_Fit_within) ∧ Binds K fd ["self"] [] ∧ PySem.W.keepIn K (.ref (ma K (ga K "Fit") "within")) = true := by
  obtain ⟨fd, F⟩ := Z.c.def_ 24 (d := d_Fit_within) rfl
  exact ⟨fd, okA_Fit_within Z F, F.bindsN fun _ _ _ _ _ _ us hl => match us, hl with | [_], _ => rfl, F.kp⟩
theorem sc_Not_within : FnScope ["self"] ["self"] (defScope s_Not_within) := ⟨rfl, rfl, rfl, by decide +kernel, rfl, by decide +kernel, by decide +kernel⟩
theorem okA_Not_within (Z : Env K mg) {fd : FuncData} (F : FunD K d_Not_within.name d_Not_within.qual d_Not_within.params d_Not_within.body d_Not_within.scope (d_Not_within.dvs K) (d_Not_within.kws K) (fAd K d_Not_within.at_) fd) : FnOk P w K mg base (L2.CX P w) 1 (ma K (ga K "Not") "within") fd ["self"] (spM K m_Not_within) := by
  have hc : Hc K := Z.x 0 (f := hcB) rfl
  have xc : Xc K := Z.x 1 (f := xcB) rfl
  refine F.ok (CX := (L2.CX P w)) sc_Not_within (fun vs H Q E h => len_M h) (fun cdv A outer s H vs Q E hr h => ⟨cS K p0 (wE E) b_Not_within, ?_, run_M rfl h⟩)
  exact (pss_one (imS i_ret (ps_ret (imE i_lst (pe_lst (imA i_cons (pa_cons (imE (i_fld hc) (pe_fld (imE i_var (pv 0)) rfl)) (imA i_nil pa_nil))))))))
theorem ok_Not_within (Z : Env K mg) : ∃ fd, FnOk P w K mg base (L2.CX P w) 1 (ma K (ga K "Not") "within") fd ["self"] (spM K m_Not_within) ∧ Binds K fd ["self"] [] ∧ PySem.W.keepIn K (.ref (ma K (ga K "Not") "within")) = true := by
  obtain ⟨fd, F⟩ := Z.c.def_ 25 (d := d_Not_within) rfl
  exact ⟨fd, okA_Not_within Z F, F.bindsN fun _ _ _ _ _ _ us hl => match us, hl with | [_], _ => rfl, F.kp⟩
theorem sc_Turns_look_through : FnScope ["self", "fits", "left", "fit"] ["self", "fits"] (defScope s_Turns_look_through) := ⟨rfl, rfl, rfl, by decide +kernel, rfl, by decide +kernel, by decide +kernel⟩
theorem okA_Turns_look_through (Z : Env K mg) {fd : FuncData} (F : FunD K d_Turns_look_through.name d_Turns_look_through.qual d_Turns_look_through.params d_Turns_look_through.body d_Turns_look_through.scope (d_Turns_look_through.dvs K) (d_Turns_look_through.kws K) (fAd K d_Turns_look_through.at_) fd) : FnOk P w K mg base (L2.CX P w) 2 (ma K (ga K "Turns") "look_through") fd ["self", "fits"] (spM K m_Turns_look_through) := by
  obtain ⟨fd_Fit_within, G_Fit_within, b_Fit_within, k_Fit_within⟩ := ok_Fit_within (P := P) (w := w) (base := base) Z
  obtain ⟨fd_Not_within, G_Not_within, b_Not_within, k_Not_within⟩ := ok_Not_within (P := P) (w := w) (base := base) Z
  obtain ⟨fd_Several_within, G_Several_within, b_Several_within, k_Several_within⟩ := ok_Several_within (P := P) (w := w) (base := base) Z
  obtain ⟨fd_Turns_look_at, G_Turns_look_at, b_Turns_look_at, k_Turns_look_at⟩ := ok_Turns_look_at (P := P) (w := w) (base := base) Z
  have z_list := Z.free 9 (x := "list") rfl
  have hc : Hc K := Z.x 0 (f := hcB) rfl
  have xc : Xc K := Z.x 1 (f := xcB) rfl
  have c_Any := hc.cls (C := "Any") (by decide +kernel)
  have c_Both := hc.cls (C := "Both") (by decide +kernel)
  have c_Either := hc.cls (C := "Either") (by decide +kernel)
  have c_Kind := hc.cls (C := "Kind") (by decide +kernel)
  have c_Least := hc.cls (C := "Least") (by decide +kernel)
  have c_Not := hc.cls (C := "Not") (by decide +kernel)
  have c_Place := hc.cls (C := "Place") (by decide +kernel)
  have c_Turns := hc.cls (C := "Turns") (by decide +kernel)
  have h_Any_within := methB_ok (Z.x 7 (f := fun K => methB K (ga K "Any") "within" (ma K (ga K "Fit") "within")) rfl)
  have h_Both_within := methB_ok (Z.x 8 (f := fun K => methB K (ga K "Both") "within" (ma K (ga K "Several") "within")) rfl)
  have h_Either_within := methB_ok (Z.x 9 (f := fun K => methB K (ga K "Either") "within" (ma K (ga K "Several") "within")) rfl)
  have h_Kind_within := methB_ok (Z.x 10 (f := fun K => methB K (ga K "Kind") "within" (ma K (ga K "Fit") "within")) rfl)
  have h_Least_within := methB_ok (Z.x 11 (f := fun K => methB K (ga K "Least") "within" (ma K (ga K "Fit") "within")) rfl)
  have h_Not_within := meth_ok (Z.c.fact 40 (f := .meth "Not" "within") rfl)
  have h_Place_within := methB_ok (Z.x 12 (f := fun K => methB K (ga K "Place") "within" (ma K (ga K "Fit") "within")) rfl)
  have h_Turns_look_at := meth_ok (Z.c.fact 41 (f := .meth "Turns" "look_at") rfl)
  refine F.ok (CX := (L2.CX P w)) sc_Turns_look_through (fun vs H Q E h => len_M h) (fun cdv A outer s H vs Q E hr h => ⟨cS K p0 (wE E) b_Turns_look_through, ?_, run_M rfl h⟩)
  exact (imSs i_seq (pss_cons (imS (i_asgN ⟨.inl rfl, .inl ⟨rfl, rfl⟩⟩ (fun _ _ _ h => h)) (ps_set (i := 2) sc_Turns_look_through.nd rfl (Or.inl rfl) (qe_cb (cm_list true) fun _ q => pe_callTy q (by rfl) z_list (by decide +kernel) (imA i_cons (pa_cons (imE i_var (pv 1)) (imA i_nil pa_nil))))))
    (pss_one (imS i_while (ps_while (passes_of rfl) (qt_cmp (om_neE hr.units) (imE i_var (pv 2)) (imE i_lst (pe_lst (imA i_nil pa_nil))) (nomark _))
    (imSs i_seq (pss_cons (imS (i_asgN ⟨.inl rfl, .inl ⟨rfl, rfl⟩⟩ (fun _ _ _ h => h)) (ps_set (i := 3) sc_Turns_look_through.nd rfl (Or.inl rfl) (imE i_pop (pe_bm0 PySem.F.plainAttrs_list PySem.F.slot_list_pop PySem.F.type_list_pop mt_pop (imE i_var (pv 2))))))
    (imSs i_seq (pss_cons (imS i_drop (ps_expr (imE (i_meth (m := "look_at") (allF (Ns := ["Turns"]) rfl (by decide +kernel))) (qe_altC (C := "Turns") (qe_meth (imE i_var (pv 0)) c_Turns h_Turns_look_at G_Turns_look_at (hr.mono (by decide)) b_Turns_look_at (fun σ => passAt (takes_of rfl rfl rfl rfl) σ) (imA i_cons (pa_cons (imE i_var (pv 3)) (imA i_nil pa_nil)))) qe_altN))))
    (pss_one (imS i_drop (ps_expr (imE i_ext (pe_bm PySem.F.plainAttrs_list PySem.F.slot_list_extend PySem.F.type_list_extend mt_extend (imE i_var (pv 2)) (pa_cons (imE (i_meth0 (m := "within") (allF (Ns := ["Either", "Any", "Kind", "Place", "Least", "Not", "Both"]) rfl (by decide +kernel))) (qe_altC (C := "Either") (qe_meth0 (imE i_var (pv 3)) c_Either h_Either_within G_Several_within (hr.mono (by decide)) b_Several_within (fun σ => passAt (takes_of rfl rfl rfl rfl) σ)) (qe_altC (C := "Any") (qe_meth0 (imE i_var (pv 3)) c_Any h_Any_within G_Fit_within (hr.mono (by decide)) b_Fit_within (fun σ => passAt (takes_of rfl rfl rfl rfl) σ)) (qe_altC (C := "Kind") (qe_meth0 (imE i_var (pv 3)) c_Kind h_Kind_within G_Fit_within (hr.mono (by decide)) b_Fit_within (fun σ => passAt (takes_of rfl rfl rfl rfl) σ)) (qe_altC (C := "Place") (qe_meth0 (imE i_var (pv 3)) c_Place h_Place_within G_Fit_within (hr.mono (by decide)) b_Fit_within (fun σ => passAt (takes_of rfl rfl rfl rfl) σ)) (qe_altC (C := "Least") (qe_meth0 (imE i_var (pv 3)) c_Least h_Least_within G_Fit_within (hr.mono (by decide)) b_Fit_within (fun σ => passAt (takes_of rfl rfl rfl rfl) σ)) (qe_altC (C := "Not") (qe_meth0 (imE i_var (pv 3)) c_Not h_Not_within G_Not_within (hr.mono (by decide)) b_Not_within (fun σ => passAt (takes_of rfl rfl rfl rfl) σ)) (qe_altC (C := "Both") (qe_meth0 (imE i_var (pv 3)) c_Both h_Both_within G_Several_within (hr.mono (by decide)) b_Several_within (fun σ => passAt (takes_of rfl rfl rfl rfl) σ)) qe_altN)))))))) pa_nil)))))))))))))))
theorem ok_Turns_look_through (Z : Env K mg) : ∃ fd, FnOk P w K mg base (L2.CX P w) 2 (ma K (ga K "Turns") "look_through") fd ["self", "fits"] (spM K m_Turns_look_through) ∧ Binds K fd ["self", "fits"] [] ∧ PySem.W.keepIn K (.ref (ma K (ga K "Turns") "look_through")) = true := by
  obtain ⟨fd, F⟩ := Z.c.def_ 26 (d := d_Turns_look_through) rfl
  exact ⟨fd, okA_Turns_look_through Z F, F.bindsN fun _ _ _ _ _ _ us hl => match us, hl with | [_, _], _ => rfl, F.kp⟩
theorem sc_found_where : FnScope ["fits", "is_right", "turns", "places", "weights", "kind", "place", "weight", "happening"] ["fits", "is_right"] (defScope s_found_where) := ⟨rfl, rfl, rfl, by decide +kernel, rfl, by decide +kernel, by decide +kernel⟩
theorem bd_found_where (Z : Env K mg) {A : Around} {outer : List PySem.Env} {s : Shared} {H : Hp} {E : XK} {wd : Wd} {fn : Addr} {cdv : Value} {r : MF} (hr : Room 52 (A.deeper (envOfC "found_where" (defScope s_found_where) s.heap.objs.size (ga K "found_where") cdv)))
    (act : ∀ {e1 : Expr} {m1 : ME} {p1 p2 : Pos}, PE (cxOf (L2.CX P w) P w K mg base ["fits", "is_right", "turns", "places", "weights", "kind", "place", "weight", "happening"] "found_where" (defScope s_found_where) (ga K "found_where") cdv A outer s H E) e1 (cE K (pA wd H 1 fn) (wE E) m1) → starEach [e1] (cxOf (L2.CX P w) P w K mg base ["fits", "is_right", "turns", "places", "weights", "kind", "place", "weight", "happening"] "found_where" (defScope s_found_where) (ga K "found_where") cdv A outer s H E).env = (false, eval e1 (cxOf (L2.CX P w) P w K mg base ["fits", "is_right", "turns", "places", "weights", "kind", "place", "weight", "happening"] "found_where" (defScope s_found_where) (ga K "found_where") cdv A outer s H E).env) :: starEach [] (cxOf (L2.CX P w) P w K mg base ["fits", "is_right", "turns", "places", "weights", "kind", "place", "weight", "happening"] "found_where" (defScope s_found_where) (ga K "found_where") cdv A outer s H E).env → PE (cxOf (L2.CX P w) P w K mg base ["fits", "is_right", "turns", "places", "weights", "kind", "place", "weight", "happening"] "found_where" (defScope s_found_where) (ga K "found_where") cdv A outer s H E) (.Call (.Name "is_right" p1) [e1] [] p2) (cE K (pA wd H 1 fn) (wE E) (eCallF 1 r m1))) :
    PSs (cxOf (L2.CX P w) P w K mg base ["fits", "is_right", "turns", "places", "weights", "kind", "place", "weight", "happening"] "found_where" (defScope s_found_where) (ga K "found_where") cdv A outer s H E) (defBody s_found_where) (cS K (pA wd H 1 fn) (wE E) (Mo.b_found_where r)) := by
  obtain ⟨fd_Happening_init, G_Happening_init, b_Happening_init, k_Happening_init⟩ := ok_Happening_init (P := P) (w := w) (base := base) Z
  obtain ⟨fd_Turns_init, G_Turns_init, b_Turns_init, k_Turns_init⟩ := ok_Turns_init (P := P) (w := w) (base := base) Z
  obtain ⟨fd_Turns_look_through, G_Turns_look_through, b_Turns_look_through, k_Turns_look_through⟩ := ok_Turns_look_through (P := P) (w := w) (base := base) Z
  obtain ⟨fd_with_one_more, G_with_one_more, b_with_one_more, k_with_one_more⟩ := ok_with_one_more (P := P) (w := w) (base := base) Z
  have g_Happening := Z.glo 42 (x := "Happening") rfl
  have g_Turns := Z.glo 43 (x := "Turns") rfl
  have g_with_one_more := Z.glo 44 (x := "with_one_more") rfl
  have z_set := Z.free 11 (x := "set") rfl
  have z_sorted := Z.free 12 (x := "sorted") rfl
  have hc : Hc K := Z.x 0 (f := hcB) rfl
  have xc : Xc K := Z.x 1 (f := xcB) rfl
  have mk_Happening := mkr_ok (Z.c.fact 45 (f := .mkr "Happening") rfl)
  have mk_Turns := mkr_ok (Z.c.fact 46 (f := .mkr "Turns") rfl)
  have c_Turns := hc.cls (C := "Turns") (by decide +kernel)
  have h_Turns_look_through := meth_ok (Z.c.fact 47 (f := .meth "Turns" "look_through") rfl)
  exact (imSs i_seq (pss_cons (imS (i_asgN ⟨.inl rfl, .inr (show (2 : Nat) ≠ 1 from by decide)⟩ (fun _ _ _ h => h)) (ps_set (i := 2) sc_found_where.nd rfl (Or.inl rfl) (imE (i_makeD0 (L := ["kinds", "places", "weights"]) rvc0 (by decide +kernel) (by decide +kernel)) (qe_makeD0 mk_Turns G_Turns_init (hr.mono (by decide)) (by exact rfl) g_Turns b_Turns_init .nil (fun σ => passAt (takes_of rfl rfl rfl rfl) σ)))))
    (imSs i_seq (pss_cons (imS i_drop (ps_expr (imE (i_meth (m := "look_through") (allF (Ns := ["Turns"]) rfl (by decide +kernel))) (qe_altC (C := "Turns") (qe_meth (imE i_var (pv 2)) c_Turns h_Turns_look_through G_Turns_look_through (hr.mono (by decide)) b_Turns_look_through (fun σ => passAt (takes_of rfl rfl rfl rfl) σ) (imA i_cons (pa_cons (imE i_var (pv 0)) (imA i_nil pa_nil)))) qe_altN))))
    (imSs i_seq (pss_cons (imS (i_asgN ⟨.inl rfl, .inr (show (3 : Nat) ≠ 1 from by decide)⟩ (fun _ _ _ h => h)) (ps_set (i := 3) sc_found_where.nd rfl (Or.inl rfl) (imE i_call (pe_callS G_with_one_more (hr.mono (by decide)) (by exact rfl) g_with_one_more k_with_one_more b_with_one_more (fun σ => passAt (takes_of rfl rfl rfl rfl) σ) (imA i_cons (pa_cons (imE (i_fld hc) (pe_fld (imE i_var (pv 2)) rfl)) (imA i_nil pa_nil)))))))
    (imSs i_seq (pss_cons (imS (i_asgN ⟨.inl rfl, .inr (show (4 : Nat) ≠ 1 from by decide)⟩ (fun _ _ _ h => h)) (ps_set (i := 4) sc_found_where.nd rfl (Or.inl rfl) (imE i_sortS (pe_sortSet rfl (by rfl) z_sorted (by rfl) z_set (imE (i_fld hc) (pe_fld (imE i_var (pv 2)) rfl))))))
    (imSs i_seq (pss_cons (imS i_for (ps_for (passes_of rfl) rfl (qi_D (imE i_call (pe_callS G_with_one_more (hr.mono (by decide)) (by exact rfl) g_with_one_more k_with_one_more b_with_one_more (fun σ => passAt (takes_of rfl rfl rfl rfl) σ) (imA i_cons (pa_cons (imE (i_fld hc) (pe_fld (imE i_var (pv 2)) rfl)) (imA i_nil pa_nil)))))) (imG (i_hNm ⟨.inl rfl, .inr (show (5 : Nat) ≠ 1 from by decide)⟩) (pg_name (i := 5) sc_found_where.nd rfl (Or.inl rfl)))
    (pss_one (imS i_for (ps_for (passes_of rfl) rfl (qi_D (imE i_var (pv 3))) (imG (i_hNm ⟨.inl rfl, .inr (show (6 : Nat) ≠ 1 from by decide)⟩) (pg_name (i := 6) sc_found_where.nd rfl (Or.inl rfl)))
    (pss_one (imS i_for (ps_for (passes_of rfl) rfl (qi_D (imE i_var (pv 4))) (imG (i_hNm ⟨.inl rfl, .inr (show (7 : Nat) ≠ 1 from by decide)⟩) (pg_name (i := 7) sc_found_where.nd rfl (Or.inl rfl)))
    (imSs i_seq (pss_cons (imS (i_asgN ⟨.inl rfl, .inr (show (8 : Nat) ≠ 1 from by decide)⟩ (fun _ _ _ h => h)) (ps_set (i := 8) sc_found_where.nd rfl (Or.inl rfl) (imE (i_make (L := ["kind", "place", "weight"]) (by decide +kernel) (by decide +kernel)) (pe_makeS mk_Happening G_Happening_init (hr.mono (by decide)) (by exact rfl) g_Happening b_Happening_init (fun σ => passAt (takes_of rfl rfl rfl rfl) σ) (imA i_cons (pa_cons (imE i_var (pv 5)) (imA i_cons (pa_cons (imE i_var (pv 6)) (imA i_cons (pa_cons (imE i_var (pv 7)) (imA i_nil pa_nil)))))))))))
    (pss_one (imS i_ifS (ps_if (imT i_tru (pt_truth (act (imE i_var (pv 8)) (by rfl)) (by intro _; rfl))) (pss_one (imS i_ret (ps_ret (imE i_var (pv 8))))) (imSs i_next pss_nil))))))))))))))
    (pss_one (imS i_ret (ps_ret (imE i_non pe_non))))))))))))))
theorem ok_found_where (Z : Env K mg) : ∃ fd, FunD K d_found_where.name d_found_where.qual d_found_where.params d_found_where.body d_found_where.scope (d_found_where.dvs K) (d_found_where.kws K) (fAd K d_found_where.at_) fd ∧ Binds K fd ["fits", "is_right"] [] ∧ PySem.W.keepIn K (.ref (ga K "found_where")) = true := by
  obtain ⟨fd, F⟩ := Z.c.def_ 27 (d := d_found_where) rfl
  exact ⟨fd, F, F.bindsN fun _ _ _ _ _ _ us hl => match us, hl with | [_, _], _ => rfl, F.kp⟩
theorem sc_Any_fits_it : FnScope ["self", "happening"] ["self", "happening"] (defScope s_Any_fits_it) := ⟨rfl, rfl, rfl, by decide +kernel, rfl, by decide +kernel, by decide +kernel⟩
theorem okA_Any_fits_it (Z : Env K mg) {fd : FuncData} (F : FunD K d_Any_fits_it.name d_Any_fits_it.qual d_Any_fits_it.params d_Any_fits_it.body d_Any_fits_it.scope (d_Any_fits_it.dvs K) (d_Any_fits_it.kws K) (fAd K d_Any_fits_it.at_) fd) : FnOk P w K mg base (L2.CX P w) 1 (ma K (ga K "Any") "fits_it") fd ["self", "happening"] (spM K m_Any_fits_it) := by
  have hc : Hc K := Z.x 0 (f := hcB) rfl
  have xc : Xc K := Z.x 1 (f := xcB) rfl
  refine F.ok (CX := (L2.CX P w)) sc_Any_fits_it (fun vs H Q E h => len_M h) (fun cdv A outer s H vs Q E hr h => ⟨cS K p0 (wE E) b_Any_fits_it, ?_, run_M rfl h⟩)
  exact (pss_one (imS i_ret (ps_ret (imE i_bl pe_bl))))
theorem ok_Any_fits_it (Z : Env K mg) : ∃ fd, FnOk P w K mg base (L2.CX P w) 1 (ma K (ga K "Any") "fits_it") fd ["self", "happening"] (spM K m_Any_fits_it) ∧ Binds K fd ["self", "happening"] [] ∧ PySem.W.keepIn K (.ref (ma K (ga K "Any") "fits_it")) = true := by
  obtain ⟨fd, F⟩ := Z.c.def_ 28 (d := d_Any_fits_it) rfl
  exact ⟨fd, okA_Any_fits_it Z F, F.bindsN fun _ _ _ _ _ _ us hl => match us, hl with | [_, _], _ => rfl, F.kp⟩
theorem sc_Kind_fits_it : FnScope ["self", "happening"] ["self", "happening"] (defScope s_Kind_fits_it) := ⟨rfl, rfl, rfl, by decide +kernel, rfl, by decide +kernel, by decide +kernel⟩
theorem okA_Kind_fits_it (Z : Env K mg) {fd : FuncData} (F : FunD K d_Kind_fits_it.name d_Kind_fits_it.qual d_Kind_fits_it.params d_Kind_fits_it.body d_Kind_fits_it.scope (d_Kind_fits_it.dvs K) (d_Kind_fits_it.kws K) (fAd K d_Kind_fits_it.at_) fd) : FnOk P w K mg base (L2.CX P w) 1 (ma K (ga K "Kind") "fits_it") fd ["self", "happening"] (spM K m_Kind_fits_it) := by
  have hc : Hc K := Z.x 0 (f := hcB) rfl
  have xc : Xc K := Z.x 1 (f := xcB) rfl
  refine F.ok (CX := (L2.CX P w)) sc_Kind_fits_it (fun vs H Q E h => len_M h) (fun cdv A outer s H vs Q E hr h => ⟨cS K p0 (wE E) b_Kind_fits_it, ?_, run_M rfl h⟩)
  exact (pss_one (imS i_ret (ps_ret (qe_cmp om_in (imE (i_fld hc) (pe_fld (imE i_var (pv 1)) rfl)) (imE (i_fld hc) (pe_fld (imE i_var (pv 0)) rfl)) (by rfl)))))
theorem ok_Kind_fits_it (Z : Env K mg) : ∃ fd, FnOk P w K mg base (L2.CX P w) 1 (ma K (ga K "Kind") "fits_it") fd ["self", "happening"] (spM K m_Kind_fits_it) ∧ Binds K fd ["self", "happening"] [] ∧ PySem.W.keepIn K (.ref (ma K (ga K "Kind") "fits_it")) = true := by
  obtain ⟨fd, F⟩ := Z.c.def_ 29 (d := d_Kind_fits_it) rfl
  exact ⟨fd, okA_Kind_fits_it Z F, F.bindsN fun _ _ _ _ _ _ us hl => match us, hl with | [_, _], _ => rfl, F.kp⟩
theorem sc_Place_fits_it : FnScope ["self", "happening"] ["self", "happening"] (defScope s_Place_fits_it) := ⟨rfl, rfl, rfl, by decide +kernel, rfl, by decide +kernel, by decide +kernel⟩
theorem okA_Place_fits_it (Z : Env K mg) {fd : FuncData} (F : FunD K d_Place_fits_it.name d_Place_fits_it.qual d_Place_fits_it.params d_Place_fits_it.body d_Place_fits_it.scope (d_Place_fits_it.dvs K) (d_Place_fits_it.kws K) (fAd K d_Place_fits_it.at_) fd) : FnOk P w K mg base (L2.CX P w) 1 (ma K (ga K "Place") "fits_it") fd ["self", "happening"] (spM K m_Place_fits_it) := by
  have hc : Hc K := Z.x 0 (f := hcB) rfl
  have xc : Xc K := Z.x 1 (f := xcB) rfl
  refine F.ok (CX := (L2.CX P w)) sc_Place_fits_it (fun vs H Q E h => len_M h) (fun cdv A outer s H vs Q E hr h => ⟨cS K p0 (wE E) b_Place_fits_it, ?_, run_M rfl h⟩)
  exact (pss_one (imS i_ret (ps_ret (qe_cmp om_in (imE (i_fld hc) (pe_fld (imE i_var (pv 1)) rfl)) (imE (i_fld hc) (pe_fld (imE i_var (pv 0)) rfl)) (by rfl)))))
theorem ok_Place_fits_it (Z : Env K mg) : ∃ fd, FnOk P w K mg base (L2.CX P w) 1 (ma K (ga K "Place") "fits_it") fd ["self", "happening"] (spM K m_Place_fits_it) ∧ Binds K fd ["self", "happening"] [] ∧ PySem.W.keepIn K (.ref (ma K (ga K "Place") "fits_it")) = true := by
  obtain ⟨fd, F⟩ := Z.c.def_ 30 (d := d_Place_fits_it) rfl
  exact ⟨fd, okA_Place_fits_it Z F, F.bindsN fun _ _ _ _ _ _ us hl => match us, hl with | [_, _], _ => rfl, F.kp⟩
theorem sc_Least_fits_it : FnScope ["self", "happening"] ["self", "happening"] (defScope s_Least_fits_it) := ⟨rfl, rfl, rfl, by decide +kernel, rfl, by decide +kernel, by decide +kernel⟩
theorem okA_Least_fits_it (Z : Env K mg) {fd : FuncData} (F : FunD K d_Least_fits_it.name d_Least_fits_it.qual d_Least_fits_it.params d_Least_fits_it.body d_Least_fits_it.scope (d_Least_fits_it.dvs K) (d_Least_fits_it.kws K) (fAd K d_Least_fits_it.at_) fd) : FnOk P w K mg base (L2.CX P w) 1 (ma K (ga K "Least") "fits_it") fd ["self", "happening"] (spM K m_Least_fits_it) := by
  have hc : Hc K := Z.x 0 (f := hcB) rfl
  have xc : Xc K := Z.x 1 (f := xcB) rfl
  refine F.ok (CX := (L2.CX P w)) sc_Least_fits_it (fun vs H Q E h => len_M h) (fun cdv A outer s H vs Q E hr h => ⟨cS K p0 (wE E) b_Least_fits_it, ?_, run_M rfl h⟩)
  exact (pss_one (imS i_ret (ps_ret (qe_cmp om_ge (imE (i_fld hc) (pe_fld (imE i_var (pv 1)) rfl)) (imE (i_fld hc) (pe_fld (imE i_var (pv 0)) rfl)) (nomark _)))))
theorem ok_Least_fits_it (Z : Env K mg) : ∃ fd, FnOk P w K mg base (L2.CX P w) 1 (ma K (ga K "Least") "fits_it") fd ["self", "happening"] (spM K m_Least_fits_it) ∧ Binds K fd ["self", "happening"] [] ∧ PySem.W.keepIn K (.ref (ma K (ga K "Least") "fits_it")) = true := by
  obtain ⟨fd, F⟩ := Z.c.def_ 31 (d := d_Least_fits_it) rfl
  exact ⟨fd, okA_Least_fits_it Z F, F.bindsN fun _ _ _ _ _ _ us hl => match us, hl with | [_, _], _ => rfl, F.kp⟩
theorem sc_Both_fits_it : FnScope ["self", "happening", "fit"] ["self", "happening"] (defScope s_Both_fits_it) := ⟨rfl, rfl, rfl, by decide +kernel, rfl, by decide +kernel, by decide +kernel⟩
theorem bi_Both_fits_it {fd : FuncData} (F : FunD K d_Both_fits_it.name d_Both_fits_it.qual d_Both_fits_it.params d_Both_fits_it.body d_Both_fits_it.scope (d_Both_fits_it.dvs K) (d_Both_fits_it.kws K) (fAd K d_Both_fits_it.at_) fd) : Binds K fd ["self", "happening"] [] := F.bindsN fun _ _ _ _ _ _ us hl => match us, hl with | [_, _], _ => rfl
theorem sc_Either_fits_it : FnScope ["self", "happening", "fit"] ["self", "happening"] (defScope s_Either_fits_it) := ⟨rfl, rfl, rfl, by decide +kernel, rfl, by decide +kernel, by decide +kernel⟩
theorem bi_Either_fits_it {fd : FuncData} (F : FunD K d_Either_fits_it.name d_Either_fits_it.qual d_Either_fits_it.params d_Either_fits_it.body d_Either_fits_it.scope (d_Either_fits_it.dvs K) (d_Either_fits_it.kws K) (fAd K d_Either_fits_it.at_) fd) : Binds K fd ["self", "happening"] [] := F.bindsN fun _ _ _ _ _ _ us hl => match us, hl with | [_, _], _ => rfl
theorem sc_Not_fits_it : FnScope ["self", "happening"] ["self", "happening"] (defScope s_Not_fits_it) := ⟨rfl, rfl, rfl, by decide +kernel, rfl, by decide +kernel, by decide +kernel⟩
theorem bi_Not_fits_it {fd : FuncData} (F : FunD K d_Not_fits_it.name d_Not_fits_it.qual d_Not_fits_it.params d_Not_fits_it.body d_Not_fits_it.scope (d_Not_fits_it.dvs K) (d_Not_fits_it.kws K) (fAd K d_Not_fits_it.at_) fd) : Binds K fd ["self", "happening"] [] := F.bindsN fun _ _ _ _ _ _ us hl => match us, hl with | [_, _], _ => rfl
theorem okA_Both_fits_it (d : Nat) (Z : Env K mg) {fd_Both_fits_it : FuncData} {fd_Either_fits_it : FuncData} {fd_Not_fits_it : FuncData} (F_Both_fits_it : FunD K d_Both_fits_it.name d_Both_fits_it.qual d_Both_fits_it.params d_Both_fits_it.body d_Both_fits_it.scope (d_Both_fits_it.dvs K) (d_Both_fits_it.kws K) (fAd K d_Both_fits_it.at_) fd_Both_fits_it) (F_Either_fits_it : FunD K d_Either_fits_it.name d_Either_fits_it.qual d_Either_fits_it.params d_Either_fits_it.body d_Either_fits_it.scope (d_Either_fits_it.dvs K) (d_Either_fits_it.kws K) (fAd K d_Either_fits_it.at_) fd_Either_fits_it) (F_Not_fits_it : FunD K d_Not_fits_it.name d_Not_fits_it.qual d_Not_fits_it.params d_Not_fits_it.body d_Not_fits_it.scope (d_Not_fits_it.dvs K) (d_Not_fits_it.kws K) (fAd K d_Not_fits_it.at_) fd_Not_fits_it) (G_Both_fits_it : FnOk P w K mg base (L2.CX P w) (1 + d) (ma K (ga K "Both") "fits_it") fd_Both_fits_it ["self", "happening"] (spM K (q_Both_fits_it d))) (G_Either_fits_it : FnOk P w K mg base (L2.CX P w) (1 + d) (ma K (ga K "Either") "fits_it") fd_Either_fits_it ["self", "happening"] (spM K (q_Either_fits_it d))) (G_Not_fits_it : FnOk P w K mg base (L2.CX P w) (1 + d) (ma K (ga K "Not") "fits_it") fd_Not_fits_it ["self", "happening"] (spM K (q_Not_fits_it d))) : FnOk P w K mg base (L2.CX P w) (1 + d + 1) (ma K (ga K "Both") "fits_it") fd_Both_fits_it ["self", "happening"] (spM K (q_Both_fits_it (d + 1))) := by
  have b_Both_fits_it := bi_Both_fits_it F_Both_fits_it
  have k_Both_fits_it := F_Both_fits_it.kp
  have b_Either_fits_it := bi_Either_fits_it F_Either_fits_it
  have k_Either_fits_it := F_Either_fits_it.kp
  have b_Not_fits_it := bi_Not_fits_it F_Not_fits_it
  have k_Not_fits_it := F_Not_fits_it.kp
  obtain ⟨fd_Any_fits_it, G_Any_fits_it, b_Any_fits_it, k_Any_fits_it⟩ := ok_Any_fits_it (P := P) (w := w) (base := base) Z
  obtain ⟨fd_Kind_fits_it, G_Kind_fits_it, b_Kind_fits_it, k_Kind_fits_it⟩ := ok_Kind_fits_it (P := P) (w := w) (base := base) Z
  obtain ⟨fd_Least_fits_it, G_Least_fits_it, b_Least_fits_it, k_Least_fits_it⟩ := ok_Least_fits_it (P := P) (w := w) (base := base) Z
  obtain ⟨fd_Place_fits_it, G_Place_fits_it, b_Place_fits_it, k_Place_fits_it⟩ := ok_Place_fits_it (P := P) (w := w) (base := base) Z
  have z_all := Z.free 15 (x := "all") rfl
  have hc : Hc K := Z.x 0 (f := hcB) rfl
  have xc : Xc K := Z.x 1 (f := xcB) rfl
  have c_Any := hc.cls (C := "Any") (by decide +kernel)
  have c_Both := hc.cls (C := "Both") (by decide +kernel)
  have c_Either := hc.cls (C := "Either") (by decide +kernel)
  have c_Kind := hc.cls (C := "Kind") (by decide +kernel)
  have c_Least := hc.cls (C := "Least") (by decide +kernel)
  have c_Not := hc.cls (C := "Not") (by decide +kernel)
  have c_Place := hc.cls (C := "Place") (by decide +kernel)
  have h_Any_fits_it := meth_ok (Z.c.fact 48 (f := .meth "Any" "fits_it") rfl)
  have h_Both_fits_it := meth_ok (Z.c.fact 49 (f := .meth "Both" "fits_it") rfl)
  have h_Either_fits_it := meth_ok (Z.c.fact 50 (f := .meth "Either" "fits_it") rfl)
  have h_Kind_fits_it := meth_ok (Z.c.fact 51 (f := .meth "Kind" "fits_it") rfl)
  have h_Least_fits_it := meth_ok (Z.c.fact 52 (f := .meth "Least" "fits_it") rfl)
  have h_Not_fits_it := meth_ok (Z.c.fact 53 (f := .meth "Not" "fits_it") rfl)
  have h_Place_fits_it := meth_ok (Z.c.fact 54 (f := .meth "Place" "fits_it") rfl)
  rw [q_Both_fits_it_s]
  refine F_Both_fits_it.ok (CX := (L2.CX P w)) sc_Both_fits_it (fun vs H Q E h => len_M h) (fun cdv A outer s H vs Q E hr h => ⟨cS K p0 (wE E) (Mo.b_Both_fits_it (q_Both_fits_it d) (q_Either_fits_it d) (q_Not_fits_it d)), ?_, run_M rfl h⟩)
  exact (pss_one (imS i_ret (ps_ret (qe_cb (cm_all rfl) fun _ q => pe_callB q (by rfl) z_all (by decide +kernel) (imA i_cons (pa_cons (imE (i_lc (fun _ _ => ⟨.inl rfl, .inl ⟨rfl, rfl⟩⟩) (fun _ h => h)) (pe_lc (own := [("fit", 2)]) rfl sc_Both_fits_it.nd (qi_D (imE (i_fld hc) (pe_fld (imE i_var (pv 0)) rfl))) (blkOk_by (own := [("fit", 2)]) (N := ["self", "happening", "fit"]) (sc := defScope s_Both_fits_it) (by decide +kernel)) (fun _ _ _ _ _ => (imG (i_hNm ⟨.inl rfl, .inl ⟨rfl, rfl⟩⟩) (pg_name (i := 2) sc_Both_fits_it.nd rfl (Or.inl rfl)))) (fun _ _ _ _ _ => (imTs i_uYes pts_nil)) (fun _ _ _ _ _ => (imE (i_meth (m := "fits_it") (allF (Ns := ["Either", "Any", "Kind", "Place", "Least", "Not", "Both"]) rfl (by decide +kernel))) (qe_altC (C := "Either") (qe_meth (imE i_var (pv 2)) c_Either h_Either_fits_it G_Either_fits_it (hr.mono (by omega)) b_Either_fits_it (fun σ => passAt takes0 σ) (imA i_cons (pa_cons (imE i_var (pv 1)) (imA i_nil pa_nil)))) (qe_altC (C := "Any") (qe_meth (imE i_var (pv 2)) c_Any h_Any_fits_it G_Any_fits_it (hr.mono (by omega)) b_Any_fits_it (fun σ => passAt takes0 σ) (imA i_cons (pa_cons (imE i_var (pv 1)) (imA i_nil pa_nil)))) (qe_altC (C := "Kind") (qe_meth (imE i_var (pv 2)) c_Kind h_Kind_fits_it G_Kind_fits_it (hr.mono (by omega)) b_Kind_fits_it (fun σ => passAt takes0 σ) (imA i_cons (pa_cons (imE i_var (pv 1)) (imA i_nil pa_nil)))) (qe_altC (C := "Place") (qe_meth (imE i_var (pv 2)) c_Place h_Place_fits_it G_Place_fits_it (hr.mono (by omega)) b_Place_fits_it (fun σ => passAt takes0 σ) (imA i_cons (pa_cons (imE i_var (pv 1)) (imA i_nil pa_nil)))) (qe_altC (C := "Least") (qe_meth (imE i_var (pv 2)) c_Least h_Least_fits_it G_Least_fits_it (hr.mono (by omega)) b_Least_fits_it (fun σ => passAt takes0 σ) (imA i_cons (pa_cons (imE i_var (pv 1)) (imA i_nil pa_nil)))) (qe_altC (C := "Not") (qe_meth (imE i_var (pv 2)) c_Not h_Not_fits_it G_Not_fits_it (hr.mono (by omega)) b_Not_fits_it (fun σ => passAt takes0 σ) (imA i_cons (pa_cons (imE i_var (pv 1)) (imA i_nil pa_nil)))) (qe_altC (C := "Both") (qe_meth (imE i_var (pv 2)) c_Both h_Both_fits_it G_Both_fits_it (hr.mono (by omega)) b_Both_fits_it (fun σ => passAt takes0 σ) (imA i_cons (pa_cons (imE i_var (pv 1)) (imA i_nil pa_nil)))) qe_altN))))))))))) (imA i_nil pa_nil)))))))
theorem okA_Either_fits_it (d : Nat) (Z : Env K mg) {fd_Both_fits_it : FuncData} {fd_Either_fits_it : FuncData} {fd_Not_fits_it : FuncData} (F_Both_fits_it : FunD K d_Both_fits_it.name d_Both_fits_it.qual d_Both_fits_it.params d_Both_fits_it.body d_Both_fits_it.scope (d_Both_fits_it.dvs K) (d_Both_fits_it.kws K) (fAd K d_Both_fits_it.at_) fd_Both_fits_it) (F_Either_fits_it : FunD K d_Either_fits_it.name d_Either_fits_it.qual d_Either_fits_it.params d_Either_fits_it.body d_Either_fits_it.scope (d_Either_fits_it.dvs K) (d_Either_fits_it.kws K) (fAd K d_Either_fits_it.at_) fd_Either_fits_it) (F_Not_fits_it : FunD K d_Not_fits_it.name d_Not_fits_it.qual d_Not_fits_it.params d_Not_fits_it.body d_Not_fits_it.scope (d_Not_fits_it.dvs K) (d_Not_fits_it.kws K) (fAd K d_Not_fits_it.at_) fd_Not_fits_it) (G_Both_fits_it : FnOk P w K mg base (L2.CX P w) (1 + d) (ma K (ga K "Both") "fits_it") fd_Both_fits_it ["self", "happening"] (spM K (q_Both_fits_it d))) (G_Either_fits_it : FnOk P w K mg base (L2.CX P w) (1 + d) (ma K (ga K "Either") "fits_it") fd_Either_fits_it ["self", "happening"] (spM K (q_Either_fits_it d))) (G_Not_fits_it : FnOk P w K mg base (L2.CX P w) (1 + d) (ma K (ga K "Not") "fits_it") fd_Not_fits_it ["self", "happening"] (spM K (q_Not_fits_it d))) : FnOk P w K mg base (L2.CX P w) (1 + d + 1) (ma K (ga K "Either") "fits_it") fd_Either_fits_it ["self", "happening"] (spM K (q_Either_fits_it (d + 1))) := by
  have b_Both_fits_it := bi_Both_fits_it F_Both_fits_it
  have k_Both_fits_it := F_Both_fits_it.kp
  have b_Either_fits_it := bi_Either_fits_it F_Either_fits_it
  have k_Either_fits_it := F_Either_fits_it.kp
  have b_Not_fits_it := bi_Not_fits_it F_Not_fits_it
  have k_Not_fits_it := F_Not_fits_it.kp
  obtain ⟨fd_Any_fits_it, G_Any_fits_it, b_Any_fits_it, k_Any_fits_it⟩ := ok_Any_fits_it (P := P) (w := w) (base := base) Z
  obtain ⟨fd_Kind_fits_it, G_Kind_fits_it, b_Kind_fits_it, k_Kind_fits_it⟩ := ok_Kind_fits_it (P := P) (w := w) (base := base) Z
  obtain ⟨fd_Least_fits_it, G_Least_fits_it, b_Least_fits_it, k_Least_fits_it⟩ := ok_Least_fits_it (P := P) (w := w) (base := base) Z
  obtain ⟨fd_Place_fits_it, G_Place_fits_it, b_Place_fits_it, k_Place_fits_it⟩ := ok_Place_fits_it (P := P) (w := w) (base := base) Z
  have z_any := Z.free 55 (x := "any") rfl
  have hc : Hc K := Z.x 0 (f := hcB) rfl
  have xc : Xc K := Z.x 1 (f := xcB) rfl
  have c_Any := hc.cls (C := "Any") (by decide +kernel)
  have c_Both := hc.cls (C := "Both") (by decide +kernel)
  have c_Either := hc.cls (C := "Either") (by decide +kernel)
  have c_Kind := hc.cls (C := "Kind") (by decide +kernel)
  have c_Least := hc.cls (C := "Least") (by decide +kernel)
  have c_Not := hc.cls (C := "Not") (by decide +kernel)
  have c_Place := hc.cls (C := "Place") (by decide +kernel)
  have h_Any_fits_it := meth_ok (Z.c.fact 48 (f := .meth "Any" "fits_it") rfl)
  have h_Both_fits_it := meth_ok (Z.c.fact 49 (f := .meth "Both" "fits_it") rfl)
  have h_Either_fits_it := meth_ok (Z.c.fact 50 (f := .meth "Either" "fits_it") rfl)
  have h_Kind_fits_it := meth_ok (Z.c.fact 51 (f := .meth "Kind" "fits_it") rfl)
  have h_Least_fits_it := meth_ok (Z.c.fact 52 (f := .meth "Least" "fits_it") rfl)
  have h_Not_fits_it := meth_ok (Z.c.fact 53 (f := .meth "Not" "fits_it") rfl)
  have h_Place_fits_it := meth_ok (Z.c.fact 54 (f := .meth "Place" "fits_it") rfl)
  rw [q_Either_fits_it_s]
  refine F_Either_fits_it.ok (CX := (L2.CX P w)) sc_Either_fits_it (fun vs H Q E h => len_M h) (fun cdv A outer s H vs Q E hr h => ⟨cS K p0 (wE E) (Mo.b_Either_fits_it (q_Both_fits_it d) (q_Either_fits_it d) (q_Not_fits_it d)), ?_, run_M rfl h⟩)
  exact (pss_one (imS i_ret (ps_ret (qe_cb (cm_any rfl) fun _ q => pe_callB q (by rfl) z_any (by decide +kernel) (imA i_cons (pa_cons (imE (i_lc (fun _ _ => ⟨.inl rfl, .inl ⟨rfl, rfl⟩⟩) (fun _ h => h)) (pe_lc (own := [("fit", 2)]) rfl sc_Either_fits_it.nd (qi_D (imE (i_fld hc) (pe_fld (imE i_var (pv 0)) rfl))) (blkOk_by (own := [("fit", 2)]) (N := ["self", "happening", "fit"]) (sc := defScope s_Either_fits_it) (by decide +kernel)) (fun _ _ _ _ _ => (imG (i_hNm ⟨.inl rfl, .inl ⟨rfl, rfl⟩⟩) (pg_name (i := 2) sc_Either_fits_it.nd rfl (Or.inl rfl)))) (fun _ _ _ _ _ => (imTs i_uYes pts_nil)) (fun _ _ _ _ _ => (imE (i_meth (m := "fits_it") (allF (Ns := ["Either", "Any", "Kind", "Place", "Least", "Not", "Both"]) rfl (by decide +kernel))) (qe_altC (C := "Either") (qe_meth (imE i_var (pv 2)) c_Either h_Either_fits_it G_Either_fits_it (hr.mono (by omega)) b_Either_fits_it (fun σ => passAt takes0 σ) (imA i_cons (pa_cons (imE i_var (pv 1)) (imA i_nil pa_nil)))) (qe_altC (C := "Any") (qe_meth (imE i_var (pv 2)) c_Any h_Any_fits_it G_Any_fits_it (hr.mono (by omega)) b_Any_fits_it (fun σ => passAt takes0 σ) (imA i_cons (pa_cons (imE i_var (pv 1)) (imA i_nil pa_nil)))) (qe_altC (C := "Kind") (qe_meth (imE i_var (pv 2)) c_Kind h_Kind_fits_it G_Kind_fits_it (hr.mono (by omega)) b_Kind_fits_it (fun σ => passAt takes0 σ) (imA i_cons (pa_cons (imE i_var (pv 1)) (imA i_nil pa_nil)))) (qe_altC (C := "Place") (qe_meth (imE i_var (pv 2)) c_Place h_Place_fits_it G_Place_fits_it (hr.mono (by omega)) b_Place_fits_it (fun σ => passAt takes0 σ) (imA i_cons (pa_cons (imE i_var (pv 1)) (imA i_nil pa_nil)))) (qe_altC (C := "Least") (qe_meth (imE i_var (pv 2)) c_Least h_Least_fits_it G_Least_fits_it (hr.mono (by omega)) b_Least_fits_it (fun σ => passAt takes0 σ) (imA i_cons (pa_cons (imE i_var (pv 1)) (imA i_nil pa_nil)))) (qe_altC (C := "Not") (qe_meth (imE i_var (pv 2)) c_Not h_Not_fits_it G_Not_fits_it (hr.mono (by omega)) b_Not_fits_it (fun σ => passAt takes0 σ) (imA i_cons (pa_cons (imE i_var (pv 1)) (imA i_nil pa_nil)))) (qe_altC (C := "Both") (qe_meth (imE i_var (pv 2)) c_Both h_Both_fits_it G_Both_fits_it (hr.mono (by omega)) b_Both_fits_it (fun σ => passAt takes0 σ) (imA i_cons (pa_cons (imE i_var (pv 1)) (imA i_nil pa_nil)))) qe_altN))))))))))) (imA i_nil pa_nil)))))))
theorem okA_Not_fits_it (d : Nat) (Z : Env K mg) {fd_Both_fits_it : FuncData} {fd_Either_fits_it : FuncData} {fd_Not_fits_it : FuncData} (F_Both_fits_it : FunD K d_Both_fits_it.name d_Both_fits_it.qual d_Both_fits_it.params d_Both_fits_it.body d_Both_fits_it.scope (d_Both_fits_it.dvs K) (d_Both_fits_it.kws K) (fAd K d_Both_fits_it.at_) fd_Both_fits_it) (F_Either_fits_it : FunD K d_Either_fits_it.name d_Either_fits_it.qual d_Either_fits_it.params d_Either_fits_it.body d_Either_fits_it.scope (d_Either_fits_it.dvs K) (d_Either_fits_it.kws K) (fAd K d_Either_fits_it.at_) fd_Either_fits_it) (F_Not_fits_it : FunD K d_Not_fits_it.name d_Not_fits_it.qual d_Not_fits_it.params d_Not_fits_it.body d_Not_fits_it.scope (d_Not_fits_it.dvs K) (d_Not_fits_it.kws K) (fAd K d_Not_fits_it.at_) fd_Not_fits_it) (G_Both_fits_it : FnOk P w K mg base (L2.CX P w) (1 + d) (ma K (ga K "Both") "fits_it") fd_Both_fits_it ["self", "happening"] (spM K (q_Both_fits_it d))) (G_Either_fits_it : FnOk P w K mg base (L2.CX P w) (1 + d) (ma K (ga K "Either") "fits_it") fd_Either_fits_it ["self", "happening"] (spM K (q_Either_fits_it d))) (G_Not_fits_it : FnOk P w K mg base (L2.CX P w) (1 + d) (ma K (ga K "Not") "fits_it") fd_Not_fits_it ["self", "happening"] (spM K (q_Not_fits_it d))) : FnOk P w K mg base (L2.CX P w) (1 + d + 1) (ma K (ga K "Not") "fits_it") fd_Not_fits_it ["self", "happening"] (spM K (q_Not_fits_it (d + 1))) := by
  have b_Both_fits_it := bi_Both_fits_it F_Both_fits_it
  have k_Both_fits_it := F_Both_fits_it.kp
  have b_Either_fits_it := bi_Either_fits_it F_Either_fits_it
  have k_Either_fits_it := F_Either_fits_it.kp
  have b_Not_fits_it := bi_Not_fits_it F_Not_fits_it
  have k_Not_fits_it := F_Not_fits_it.kp
  obtain ⟨fd_Any_fits_it, G_Any_fits_it, b_Any_fits_it, k_Any_fits_it⟩ := ok_Any_fits_it (P := P) (w := w) (base := base) Z
  obtain ⟨fd_Kind_fits_it, G_Kind_fits_it, b_Kind_fits_it, k_Kind_fits_it⟩ := ok_Kind_fits_it (P := P) (w := w) (base := base) Z
  obtain ⟨fd_Least_fits_it, G_Least_fits_it, b_Least_fits_it, k_Least_fits_it⟩ := ok_Least_fits_it (P := P) (w := w) (base := base) Z
  obtain ⟨fd_Place_fits_it, G_Place_fits_it, b_Place_fits_it, k_Place_fits_it⟩ := ok_Place_fits_it (P := P) (w := w) (base := base) Z
  have hc : Hc K := Z.x 0 (f := hcB) rfl
  have xc : Xc K := Z.x 1 (f := xcB) rfl
  have c_Any := hc.cls (C := "Any") (by decide +kernel)
  have c_Both := hc.cls (C := "Both") (by decide +kernel)
  have c_Either := hc.cls (C := "Either") (by decide +kernel)
  have c_Kind := hc.cls (C := "Kind") (by decide +kernel)
  have c_Least := hc.cls (C := "Least") (by decide +kernel)
  have c_Not := hc.cls (C := "Not") (by decide +kernel)
  have c_Place := hc.cls (C := "Place") (by decide +kernel)
  have h_Any_fits_it := meth_ok (Z.c.fact 48 (f := .meth "Any" "fits_it") rfl)
  have h_Both_fits_it := meth_ok (Z.c.fact 49 (f := .meth "Both" "fits_it") rfl)
  have h_Either_fits_it := meth_ok (Z.c.fact 50 (f := .meth "Either" "fits_it") rfl)
  have h_Kind_fits_it := meth_ok (Z.c.fact 51 (f := .meth "Kind" "fits_it") rfl)
  have h_Least_fits_it := meth_ok (Z.c.fact 52 (f := .meth "Least" "fits_it") rfl)
  have h_Not_fits_it := meth_ok (Z.c.fact 53 (f := .meth "Not" "fits_it") rfl)
  have h_Place_fits_it := meth_ok (Z.c.fact 54 (f := .meth "Place" "fits_it") rfl)
  rw [q_Not_fits_it_s]
  refine F_Not_fits_it.ok (CX := (L2.CX P w)) sc_Not_fits_it (fun vs H Q E h => len_M h) (fun cdv A outer s H vs Q E hr h => ⟨cS K p0 (wE E) (Mo.b_Not_fits_it (q_Both_fits_it d) (q_Either_fits_it d) (q_Not_fits_it d)), ?_, run_M rfl h⟩)
  exact (pss_one (imS i_ret (ps_ret (imE i_not (pe_not (imE (i_meth (m := "fits_it") (allF (Ns := ["Either", "Any", "Kind", "Place", "Least", "Not", "Both"]) rfl (by decide +kernel))) (qe_altC (C := "Either") (qe_meth (imE (i_fld hc) (pe_fld (imE i_var (pv 0)) rfl)) c_Either h_Either_fits_it G_Either_fits_it (hr.mono (by omega)) b_Either_fits_it (fun σ => passAt (takes_of rfl rfl rfl rfl) σ) (imA i_cons (pa_cons (imE i_var (pv 1)) (imA i_nil pa_nil)))) (qe_altC (C := "Any") (qe_meth (imE (i_fld hc) (pe_fld (imE i_var (pv 0)) rfl)) c_Any h_Any_fits_it G_Any_fits_it (hr.mono (by omega)) b_Any_fits_it (fun σ => passAt (takes_of rfl rfl rfl rfl) σ) (imA i_cons (pa_cons (imE i_var (pv 1)) (imA i_nil pa_nil)))) (qe_altC (C := "Kind") (qe_meth (imE (i_fld hc) (pe_fld (imE i_var (pv 0)) rfl)) c_Kind h_Kind_fits_it G_Kind_fits_it (hr.mono (by omega)) b_Kind_fits_it (fun σ => passAt (takes_of rfl rfl rfl rfl) σ) (imA i_cons (pa_cons (imE i_var (pv 1)) (imA i_nil pa_nil)))) (qe_altC (C := "Place") (qe_meth (imE (i_fld hc) (pe_fld (imE i_var (pv 0)) rfl)) c_Place h_Place_fits_it G_Place_fits_it (hr.mono (by omega)) b_Place_fits_it (fun σ => passAt (takes_of rfl rfl rfl rfl) σ) (imA i_cons (pa_cons (imE i_var (pv 1)) (imA i_nil pa_nil)))) (qe_altC (C := "Least") (qe_meth (imE (i_fld hc) (pe_fld (imE i_var (pv 0)) rfl)) c_Least h_Least_fits_it G_Least_fits_it (hr.mono (by omega)) b_Least_fits_it (fun σ => passAt (takes_of rfl rfl rfl rfl) σ) (imA i_cons (pa_cons (imE i_var (pv 1)) (imA i_nil pa_nil)))) (qe_altC (C := "Not") (qe_meth (imE (i_fld hc) (pe_fld (imE i_var (pv 0)) rfl)) c_Not h_Not_fits_it G_Not_fits_it (hr.mono (by omega)) b_Not_fits_it (fun σ => passAt (takes_of rfl rfl rfl rfl) σ) (imA i_cons (pa_cons (imE i_var (pv 1)) (imA i_nil pa_nil)))) (qe_altC (C := "Both") (qe_meth (imE (i_fld hc) (pe_fld (imE i_var (pv 0)) rfl)) c_Both h_Both_fits_it G_Both_fits_it (hr.mono (by omega)) b_Both_fits_it (fun σ => passAt (takes_of rfl rfl rfl rfl) σ) (imA i_cons (pa_cons (imE i_var (pv 1)) (imA i_nil pa_nil)))) qe_altN)))))))))))))
theorem rec_Both_fits_it (Z : Env K mg) {fd_Both_fits_it : FuncData} {fd_Either_fits_it : FuncData} {fd_Not_fits_it : FuncData} (F_Both_fits_it : FunD K d_Both_fits_it.name d_Both_fits_it.qual d_Both_fits_it.params d_Both_fits_it.body d_Both_fits_it.scope (d_Both_fits_it.dvs K) (d_Both_fits_it.kws K) (fAd K d_Both_fits_it.at_) fd_Both_fits_it) (F_Either_fits_it : FunD K d_Either_fits_it.name d_Either_fits_it.qual d_Either_fits_it.params d_Either_fits_it.body d_Either_fits_it.scope (d_Either_fits_it.dvs K) (d_Either_fits_it.kws K) (fAd K d_Either_fits_it.at_) fd_Either_fits_it) (F_Not_fits_it : FunD K d_Not_fits_it.name d_Not_fits_it.qual d_Not_fits_it.params d_Not_fits_it.body d_Not_fits_it.scope (d_Not_fits_it.dvs K) (d_Not_fits_it.kws K) (fAd K d_Not_fits_it.at_) fd_Not_fits_it) : ∀ d : Nat, FnOk P w K mg base (L2.CX P w) (1 + d) (ma K (ga K "Both") "fits_it") fd_Both_fits_it ["self", "happening"] (spM K (q_Both_fits_it d)) ∧ FnOk P w K mg base (L2.CX P w) (1 + d) (ma K (ga K "Either") "fits_it") fd_Either_fits_it ["self", "happening"] (spM K (q_Either_fits_it d)) ∧ FnOk P w K mg base (L2.CX P w) (1 + d) (ma K (ga K "Not") "fits_it") fd_Not_fits_it ["self", "happening"] (spM K (q_Not_fits_it d))
  | 0 => ⟨vac_ok, vac_ok, vac_ok⟩
  | d + 1 => by
    obtain ⟨G_Both_fits_it, G_Either_fits_it, G_Not_fits_it⟩ := rec_Both_fits_it Z F_Both_fits_it F_Either_fits_it F_Not_fits_it d
    exact ⟨okA_Both_fits_it d Z F_Both_fits_it F_Either_fits_it F_Not_fits_it G_Both_fits_it G_Either_fits_it G_Not_fits_it, okA_Either_fits_it d Z F_Both_fits_it F_Either_fits_it F_Not_fits_it G_Both_fits_it G_Either_fits_it G_Not_fits_it, okA_Not_fits_it d Z F_Both_fits_it F_Either_fits_it F_Not_fits_it G_Both_fits_it G_Either_fits_it G_Not_fits_it⟩
theorem ok_Both_fits_it (Z : Env K mg) : ∃ fd, FnOk P w K mg base (L2.CX P w) 51 (ma K (ga K "Both") "fits_it") fd ["self", "happening"] (spM K m_Both_fits_it) ∧ Binds K fd ["self", "happening"] [] ∧ PySem.W.keepIn K (.ref (ma K (ga K "Both") "fits_it")) = true := by
  obtain ⟨fd_Both_fits_it, F_Both_fits_it⟩ := Z.c.def_ 32 (d := d_Both_fits_it) rfl
  obtain ⟨fd_Either_fits_it, F_Either_fits_it⟩ := Z.c.def_ 33 (d := d_Either_fits_it) rfl
  obtain ⟨fd_Not_fits_it, F_Not_fits_it⟩ := Z.c.def_ 34 (d := d_Not_fits_it) rfl
  exact ⟨fd_Both_fits_it, (rec_Both_fits_it Z F_Both_fits_it F_Either_fits_it F_Not_fits_it 50).1, bi_Both_fits_it F_Both_fits_it, F_Both_fits_it.kp⟩
theorem ok_Either_fits_it (Z : Env K mg) : ∃ fd, FnOk P w K mg base (L2.CX P w) 51 (ma K (ga K "Either") "fits_it") fd ["self", "happening"] (spM K m_Either_fits_it) ∧ Binds K fd ["self", "happening"] [] ∧ PySem.W.keepIn K (.ref (ma K (ga K "Either") "fits_it")) = true := by
  obtain ⟨fd_Both_fits_it, F_Both_fits_it⟩ := Z.c.def_ 32 (d := d_Both_fits_it) rfl
  obtain ⟨fd_Either_fits_it, F_Either_fits_it⟩ := Z.c.def_ 33 (d := d_Either_fits_it) rfl
  obtain ⟨fd_Not_fits_it, F_Not_fits_it⟩ := Z.c.def_ 34 (d := d_Not_fits_it) rfl
  exact ⟨fd_Either_fits_it, (rec_Both_fits_it Z F_Both_fits_it F_Either_fits_it F_Not_fits_it 50).2.1, bi_Either_fits_it F_Either_fits_it, F_Either_fits_it.kp⟩
theorem ok_Not_fits_it (Z : Env K mg) : ∃ fd, FnOk P w K mg base (L2.CX P w) 51 (ma K (ga K "Not") "fits_it") fd ["self", "happening"] (spM K m_Not_fits_it) ∧ Binds K fd ["self", "happening"] [] ∧ PySem.W.keepIn K (.ref (ma K (ga K "Not") "fits_it")) = true := by
  obtain ⟨fd_Both_fits_it, F_Both_fits_it⟩ := Z.c.def_ 32 (d := d_Both_fits_it) rfl
  obtain ⟨fd_Either_fits_it, F_Either_fits_it⟩ := Z.c.def_ 33 (d := d_Either_fits_it) rfl
  obtain ⟨fd_Not_fits_it, F_Not_fits_it⟩ := Z.c.def_ 34 (d := d_Not_fits_it) rfl
  exact ⟨fd_Not_fits_it, (rec_Both_fits_it Z F_Both_fits_it F_Either_fits_it F_Not_fits_it 50).2.2, bi_Not_fits_it F_Not_fits_it, F_Not_fits_it.kp⟩
theorem sc_parting : FnScope ["one", "other"] ["one", "other"] (defScope s_parting) := ⟨rfl, rfl, rfl, by decide +kernel, rfl, by decide +kernel, by decide +kernel⟩
theorem okA_parting (Z : Env K mg) {fd : FuncData} (F : FunD K d_parting.name d_parting.qual d_parting.params d_parting.body d_parting.scope (d_parting.dvs K) (d_parting.kws K) (fAd K d_parting.at_) fd) : FnOk P w K mg base (L2.CX P w) 54 (ga K "parting") fd ["one", "other"] (spM K m_parting) := by
  obtain ⟨fd_Any_fits_it, G_Any_fits_it, b_Any_fits_it, k_Any_fits_it⟩ := ok_Any_fits_it (P := P) (w := w) (base := base) Z
  obtain ⟨fd_Both_fits_it, G_Both_fits_it, b_Both_fits_it, k_Both_fits_it⟩ := ok_Both_fits_it (P := P) (w := w) (base := base) Z
  obtain ⟨fd_Either_fits_it, G_Either_fits_it, b_Either_fits_it, k_Either_fits_it⟩ := ok_Either_fits_it (P := P) (w := w) (base := base) Z
  obtain ⟨fd_Kind_fits_it, G_Kind_fits_it, b_Kind_fits_it, k_Kind_fits_it⟩ := ok_Kind_fits_it (P := P) (w := w) (base := base) Z
  obtain ⟨fd_Least_fits_it, G_Least_fits_it, b_Least_fits_it, k_Least_fits_it⟩ := ok_Least_fits_it (P := P) (w := w) (base := base) Z
  obtain ⟨fd_Not_fits_it, G_Not_fits_it, b_Not_fits_it, k_Not_fits_it⟩ := ok_Not_fits_it (P := P) (w := w) (base := base) Z
  obtain ⟨fd_Place_fits_it, G_Place_fits_it, b_Place_fits_it, k_Place_fits_it⟩ := ok_Place_fits_it (P := P) (w := w) (base := base) Z
  obtain ⟨fd_found_where, G_found_where, b_found_where, k_found_where⟩ := ok_found_where Z
  have g_found_where := Z.glo 56 (x := "found_where") rfl
  have hc : Hc K := Z.x 0 (f := hcB) rfl
  have xc : Xc K := Z.x 1 (f := xcB) rfl
  have c_Any := hc.cls (C := "Any") (by decide +kernel)
  have c_Both := hc.cls (C := "Both") (by decide +kernel)
  have c_Either := hc.cls (C := "Either") (by decide +kernel)
  have c_Kind := hc.cls (C := "Kind") (by decide +kernel)
  have c_Least := hc.cls (C := "Least") (by decide +kernel)
  have c_Not := hc.cls (C := "Not") (by decide +kernel)
  have c_Place := hc.cls (C := "Place") (by decide +kernel)
  have h_Any_fits_it := meth_ok (Z.c.fact 48 (f := .meth "Any" "fits_it") rfl)
  have h_Both_fits_it := meth_ok (Z.c.fact 49 (f := .meth "Both" "fits_it") rfl)
  have h_Either_fits_it := meth_ok (Z.c.fact 50 (f := .meth "Either" "fits_it") rfl)
  have h_Kind_fits_it := meth_ok (Z.c.fact 51 (f := .meth "Kind" "fits_it") rfl)
  have h_Least_fits_it := meth_ok (Z.c.fact 52 (f := .meth "Least" "fits_it") rfl)
  have h_Not_fits_it := meth_ok (Z.c.fact 53 (f := .meth "Not" "fits_it") rfl)
  have h_Place_fits_it := meth_ok (Z.c.fact 54 (f := .meth "Place" "fits_it") rfl)
  refine okC (CX := (L2.CX P w)) F sc_parting (fun vs H Q E h => len_M h) (fun A outer s H vs Q E hr h => ⟨cS K p0 (wE E) b_parting, ?_, run_M rfl h⟩)
  exact (pss_one (imS i_ret (ps_ret (pe_hof (x := "found_where") (a0 := "fits") (a := "is_right") (pn := "happening") (n := 9) (k := 0) (kk := 51) (m := 52) (bm := Mo.b_found_where) G_found_where sc_found_where rfl b_found_where rfl (Or.inl rfl) (by exact rfl) g_found_where (TbF.h (K := K) (mg := mg) (base := base) d_parting.at_ (by decide +kernel)) rfl (show tabQ 0 = (envOfC d_parting.qual d_parting.scope 0 0 .none).qual ++ "<lambda>" from by decide +kernel) (hr.mono (by decide)) (by decide) (lamS1_by (sc := d_parting.scope) (N := ["one", "other"]) (by decide +kernel)) rfl (fun _ _ _ _ _ _ => rfl) (takes_of rfl rfl rfl rfl)
    (by exact fun A outer s5 H5 E5 f c' hr => (imE i_and (pe_and (imE (i_meth (m := "fits_it") (allF (Ns := ["Either", "Any", "Kind", "Place", "Least", "Not", "Both"]) rfl (by decide +kernel))) (qe_altC (C := "Either") (qe_meth (imE i_var (pv 0)) c_Either h_Either_fits_it G_Either_fits_it (hr.mono (by decide)) b_Either_fits_it (fun σ => passAt (takes_of rfl rfl rfl rfl) σ) (imA i_cons (pa_cons (imE i_var (pv 2)) (imA i_nil pa_nil)))) (qe_altC (C := "Any") (qe_meth (imE i_var (pv 0)) c_Any h_Any_fits_it G_Any_fits_it (hr.mono (by decide)) b_Any_fits_it (fun σ => passAt (takes_of rfl rfl rfl rfl) σ) (imA i_cons (pa_cons (imE i_var (pv 2)) (imA i_nil pa_nil)))) (qe_altC (C := "Kind") (qe_meth (imE i_var (pv 0)) c_Kind h_Kind_fits_it G_Kind_fits_it (hr.mono (by decide)) b_Kind_fits_it (fun σ => passAt (takes_of rfl rfl rfl rfl) σ) (imA i_cons (pa_cons (imE i_var (pv 2)) (imA i_nil pa_nil)))) (qe_altC (C := "Place") (qe_meth (imE i_var (pv 0)) c_Place h_Place_fits_it G_Place_fits_it (hr.mono (by decide)) b_Place_fits_it (fun σ => passAt (takes_of rfl rfl rfl rfl) σ) (imA i_cons (pa_cons (imE i_var (pv 2)) (imA i_nil pa_nil)))) (qe_altC (C := "Least") (qe_meth (imE i_var (pv 0)) c_Least h_Least_fits_it G_Least_fits_it (hr.mono (by decide)) b_Least_fits_it (fun σ => passAt (takes_of rfl rfl rfl rfl) σ) (imA i_cons (pa_cons (imE i_var (pv 2)) (imA i_nil pa_nil)))) (qe_altC (C := "Not") (qe_meth (imE i_var (pv 0)) c_Not h_Not_fits_it G_Not_fits_it (hr.mono (by decide)) b_Not_fits_it (fun σ => passAt (takes_of rfl rfl rfl rfl) σ) (imA i_cons (pa_cons (imE i_var (pv 2)) (imA i_nil pa_nil)))) (qe_altC (C := "Both") (qe_meth (imE i_var (pv 0)) c_Both h_Both_fits_it G_Both_fits_it (hr.mono (by decide)) b_Both_fits_it (fun σ => passAt (takes_of rfl rfl rfl rfl) σ) (imA i_cons (pa_cons (imE i_var (pv 2)) (imA i_nil pa_nil)))) qe_altN)))))))) (pe_one (imE i_not (pe_not (imE (i_meth (m := "fits_it") (allF (Ns := ["Either", "Any", "Kind", "Place", "Least", "Not", "Both"]) rfl (by decide +kernel))) (qe_altC (C := "Either") (qe_meth (imE i_var (pv 1)) c_Either h_Either_fits_it G_Either_fits_it (hr.mono (by decide)) b_Either_fits_it (fun σ => passAt (takes_of rfl rfl rfl rfl) σ) (imA i_cons (pa_cons (imE i_var (pv 2)) (imA i_nil pa_nil)))) (qe_altC (C := "Any") (qe_meth (imE i_var (pv 1)) c_Any h_Any_fits_it G_Any_fits_it (hr.mono (by decide)) b_Any_fits_it (fun σ => passAt (takes_of rfl rfl rfl rfl) σ) (imA i_cons (pa_cons (imE i_var (pv 2)) (imA i_nil pa_nil)))) (qe_altC (C := "Kind") (qe_meth (imE i_var (pv 1)) c_Kind h_Kind_fits_it G_Kind_fits_it (hr.mono (by decide)) b_Kind_fits_it (fun σ => passAt (takes_of rfl rfl rfl rfl) σ) (imA i_cons (pa_cons (imE i_var (pv 2)) (imA i_nil pa_nil)))) (qe_altC (C := "Place") (qe_meth (imE i_var (pv 1)) c_Place h_Place_fits_it G_Place_fits_it (hr.mono (by decide)) b_Place_fits_it (fun σ => passAt (takes_of rfl rfl rfl rfl) σ) (imA i_cons (pa_cons (imE i_var (pv 2)) (imA i_nil pa_nil)))) (qe_altC (C := "Least") (qe_meth (imE i_var (pv 1)) c_Least h_Least_fits_it G_Least_fits_it (hr.mono (by decide)) b_Least_fits_it (fun σ => passAt (takes_of rfl rfl rfl rfl) σ) (imA i_cons (pa_cons (imE i_var (pv 2)) (imA i_nil pa_nil)))) (qe_altC (C := "Not") (qe_meth (imE i_var (pv 1)) c_Not h_Not_fits_it G_Not_fits_it (hr.mono (by decide)) b_Not_fits_it (fun σ => passAt (takes_of rfl rfl rfl rfl) σ) (imA i_cons (pa_cons (imE i_var (pv 2)) (imA i_nil pa_nil)))) (qe_altC (C := "Both") (qe_meth (imE i_var (pv 1)) c_Both h_Both_fits_it G_Both_fits_it (hr.mono (by decide)) b_Both_fits_it (fun σ => passAt (takes_of rfl rfl rfl rfl) σ) (imA i_cons (pa_cons (imE i_var (pv 2)) (imA i_nil pa_nil)))) qe_altN))))))))))))))
    (by exact fun r cdg s H E wd f hr act => bd_found_where (P := P) (w := w) (K := K) (mg := mg) (base := base) Z hr act) (imE i_lst (pe_lst (imA i_cons (pa_cons (imE i_var (pv 0)) (imA i_cons (pa_cons (imE i_var (pv 1)) (imA i_nil pa_nil)))))))))))
theorem ok_parting (Z : Env K mg) : ∃ fd, FnOk P w K mg base (L2.CX P w) 54 (ga K "parting") fd ["one", "other"] (spM K m_parting) ∧ Binds K fd ["one", "other"] [] ∧ PySem.W.keepIn K (.ref (ga K "parting")) = true := by
  obtain ⟨fd, F⟩ := Z.c.def_ 35 (d := d_parting) rfl
  exact ⟨fd, okA_parting Z F, F.bindsN fun _ _ _ _ _ _ us hl => match us, hl with | [_, _], _ => rfl, F.kp⟩
theorem sc_law_cell_at : FnScope ["_law_script", "_law_k"] ["_law_script", "_law_k"] (defScope s_law_cell_at) := ⟨rfl, rfl, rfl, by decide +kernel, rfl, by decide +kernel, by decide +kernel⟩
theorem okA_law_cell_at (Z : Env K mg) {fd : FuncData} (F : FunD K d_law_cell_at.name d_law_cell_at.qual d_law_cell_at.params d_law_cell_at.body d_law_cell_at.scope (d_law_cell_at.dvs K) (d_law_cell_at.kws K) (fAd K d_law_cell_at.at_) fd) : FnOk P w K mg base (L2.CX P w) 1 (ga K "_law_cell_at") fd ["_law_script", "_law_k"] (spM K m_law_cell_at) := by
  have z_len := Z.free 1 (x := "len") rfl
  have hc : Hc K := Z.x 0 (f := hcB) rfl
  have xc : Xc K := Z.x 1 (f := xcB) rfl
  refine F.ok (CX := (L2.CX P w)) sc_law_cell_at (fun vs H Q E h => len_M h) (fun cdv A outer s H vs Q E hr h => ⟨cS K p0 (wE E) b_law_cell_at, ?_, run_M rfl h⟩)
  exact (imSs i_seq (pss_cons (imS i_ifS (ps_if (qt_cmp om_lt (imE i_var (pv 1)) (qe_cb cm_len fun _ q => pe_callB q (by rfl) z_len (by decide +kernel) (imA i_cons (pa_cons (imE i_var (pv 0)) (imA i_nil pa_nil)))) (nomark _)) (pss_one (imS i_ret (ps_ret (qe_ix (imE i_var (pv 0)) (imE i_var (pv 1)) (fun _ _ => rfl))))) (imSs i_next pss_nil)))
    (pss_one (imS i_ret (ps_ret (imE i_int pe_int))))))
theorem ok_law_cell_at (Z : Env K mg) : ∃ fd, FnOk P w K mg base (L2.CX P w) 1 (ga K "_law_cell_at") fd ["_law_script", "_law_k"] (spM K m_law_cell_at) ∧ Binds K fd ["_law_script", "_law_k"] [] ∧ PySem.W.keepIn K (.ref (ga K "_law_cell_at")) = true := by
  obtain ⟨fd, F⟩ := Z.c.def_ 36 (d := d_law_cell_at) rfl
  exact ⟨fd, okA_law_cell_at Z F, F.bindsN fun _ _ _ _ _ _ us hl => match us, hl with | [_, _], _ => rfl, F.kp⟩
theorem sc_law_fits : FnScope ["_law_tree_here", "_law_thing", "_law_part"] ["_law_tree_here", "_law_thing"] (defScope s_law_fits) := ⟨rfl, rfl, rfl, by decide +kernel, rfl, by decide +kernel, by decide +kernel⟩
theorem bi_law_fits {fd : FuncData} (F : FunD K d_law_fits.name d_law_fits.qual d_law_fits.params d_law_fits.body d_law_fits.scope (d_law_fits.dvs K) (d_law_fits.kws K) (fAd K d_law_fits.at_) fd) : Binds K fd ["_law_tree_here", "_law_thing"] [] := F.bindsN fun _ _ _ _ _ _ us hl => match us, hl with | [_, _], _ => rfl
theorem okA_law_fits (d : Nat) (Z : Env K mg) {fd_law_fits : FuncData} (F_law_fits : FunD K d_law_fits.name d_law_fits.qual d_law_fits.params d_law_fits.body d_law_fits.scope (d_law_fits.dvs K) (d_law_fits.kws K) (fAd K d_law_fits.at_) fd_law_fits) (G_law_fits : FnOk P w K mg base (L2.CX P w) (0 + d) (ga K "_law_fits") fd_law_fits ["_law_tree_here", "_law_thing"] (spM K (q_law_fits d))) : FnOk P w K mg base (L2.CX P w) (0 + d + 1) (ga K "_law_fits") fd_law_fits ["_law_tree_here", "_law_thing"] (spM K (q_law_fits (d + 1))) := by
  have b_law_fits := bi_law_fits F_law_fits
  have k_law_fits := F_law_fits.kp
  have g__law_fits := Z.glo 57 (x := "_law_fits") rfl
  have hc : Hc K := Z.x 0 (f := hcB) rfl
  have xc : Xc K := Z.x 1 (f := xcB) rfl
  rw [q_law_fits_s]
  refine F_law_fits.ok (CX := (L2.CX P w)) sc_law_fits (fun vs H Q E h => len_M h) (fun cdv A outer s H vs Q E hr h => ⟨cS K p0 (wE E) (Mo.b_law_fits (q_law_fits d)), ?_, run_M rfl h⟩)
  exact (imSs i_seq (pss_cons (imS i_ifS (ps_if (qt_cmp (om_eq hr.units) (qe_ix (imE i_var (pv 0)) (imE i_int pe_int) (fun _ _ => rfl)) (imE i_str pe_str) (nomark _)) (pss_one (imS i_ret (ps_ret (imE i_bl pe_bl)))) (imSs i_next pss_nil)))
    (imSs i_seq (pss_cons (imS i_ifS (ps_if (qt_cmp (om_eq hr.units) (qe_ix (imE i_var (pv 0)) (imE i_int pe_int) (fun _ _ => rfl)) (imE i_str pe_str) (nomark _)) (pss_one (imS i_ret (ps_ret (qe_cmp om_in (qe_ix (imE i_var (pv 1)) (imE i_int pe_int) (fun _ _ => rfl)) (qe_ix (imE i_var (pv 0)) (imE i_int pe_int) (fun _ _ => rfl)) (by rfl))))) (imSs i_next pss_nil)))
    (imSs i_seq (pss_cons (imS i_ifS (ps_if (qt_cmp (om_eq hr.units) (qe_ix (imE i_var (pv 0)) (imE i_int pe_int) (fun _ _ => rfl)) (imE i_str pe_str) (nomark _)) (pss_one (imS i_ret (ps_ret (qe_cmp om_in (qe_ix (imE i_var (pv 1)) (imE i_int pe_int) (fun _ _ => rfl)) (qe_ix (imE i_var (pv 0)) (imE i_int pe_int) (fun _ _ => rfl)) (by rfl))))) (imSs i_next pss_nil)))
    (imSs i_seq (pss_cons (imS i_ifS (ps_if (qt_cmp (om_eq hr.units) (qe_ix (imE i_var (pv 0)) (imE i_int pe_int) (fun _ _ => rfl)) (imE i_str pe_str) (nomark _)) (pss_one (imS i_ret (ps_ret (qe_cmp om_ge (qe_ix (imE i_var (pv 1)) (imE i_int pe_int) (fun _ _ => rfl)) (qe_ix (imE i_var (pv 0)) (imE i_int pe_int) (fun _ _ => rfl)) (nomark _))))) (imSs i_next pss_nil)))
    (imSs i_seq (pss_cons (imS i_ifS (ps_if (qt_cmp (om_eq hr.units) (qe_ix (imE i_var (pv 0)) (imE i_int pe_int) (fun _ _ => rfl)) (imE i_str pe_str) (nomark _)) (pss_one (imS i_ret (ps_ret (imE i_not (pe_not (imE i_call (pe_callS G_law_fits (hr.mono (by omega)) (by exact rfl) g__law_fits k_law_fits b_law_fits (fun σ => passAt (takes_of rfl rfl rfl rfl) σ) (imA i_cons (pa_cons (qe_ix (imE i_var (pv 0)) (imE i_int pe_int) (fun _ _ => rfl)) (imA i_cons (pa_cons (imE i_var (pv 1)) (imA i_nil pa_nil)))))))))))) (imSs i_next pss_nil)))
    (imSs i_seq (pss_cons (imS i_ifS (ps_if (qt_cmp (om_eq hr.units) (qe_ix (imE i_var (pv 0)) (imE i_int pe_int) (fun _ _ => rfl)) (imE i_str pe_str) (nomark _)) (pss_one (imS i_ret (ps_ret (qe_cmp (om_eqE hr.units) (imE (i_lc (fun _ _ => ⟨.inl rfl, .inl ⟨rfl, rfl⟩⟩) (fun _ h => h)) (pe_lc (own := [("_law_part", 2)]) rfl sc_law_fits.nd (qi_D (qe_ix (imE i_var (pv 0)) (imE i_int pe_int) (fun _ _ => rfl))) (blkOk_by (own := [("_law_part", 2)]) (N := ["_law_tree_here", "_law_thing", "_law_part"]) (sc := defScope s_law_fits) (by decide +kernel)) (fun _ _ _ _ _ => (imG (i_hNm ⟨.inl rfl, .inl ⟨rfl, rfl⟩⟩) (pg_name (i := 2) sc_law_fits.nd rfl (Or.inl rfl)))) (fun _ _ _ _ _ => (pts_one (imT i_uNot (pt_not (imT i_tru (pt_truth (imE i_call (pe_callS G_law_fits (hr.mono (by omega)) (by exact rfl) g__law_fits k_law_fits b_law_fits (fun σ => passAt takes0 σ) (imA i_cons (pa_cons (imE i_var (pv 2)) (imA i_cons (pa_cons (imE i_var (pv 1)) (imA i_nil pa_nil))))))) (by intro _; rfl))))))) (fun _ _ _ _ _ => (imE i_var (pv 2))))) (imE i_lst (pe_lst (imA i_nil pa_nil))) (nomark _))))) (imSs i_next pss_nil)))
    (pss_one (imS i_ret (ps_ret (qe_cmp (om_neE hr.units) (imE (i_lc (fun _ _ => ⟨.inl rfl, .inl ⟨rfl, rfl⟩⟩) (fun _ h => h)) (pe_lc (own := [("_law_part", 2)]) rfl sc_law_fits.nd (qi_D (qe_ix (imE i_var (pv 0)) (imE i_int pe_int) (fun _ _ => rfl))) (blkOk_by (own := [("_law_part", 2)]) (N := ["_law_tree_here", "_law_thing", "_law_part"]) (sc := defScope s_law_fits) (by decide +kernel)) (fun _ _ _ _ _ => (imG (i_hNm ⟨.inl rfl, .inl ⟨rfl, rfl⟩⟩) (pg_name (i := 2) sc_law_fits.nd rfl (Or.inl rfl)))) (fun _ _ _ _ _ => (pts_one (imT i_tru (pt_truth (imE i_call (pe_callS G_law_fits (hr.mono (by omega)) (by exact rfl) g__law_fits k_law_fits b_law_fits (fun σ => passAt takes0 σ) (imA i_cons (pa_cons (imE i_var (pv 2)) (imA i_cons (pa_cons (imE i_var (pv 1)) (imA i_nil pa_nil))))))) (by intro _; rfl))))) (fun _ _ _ _ _ => (imE i_var (pv 2))))) (imE i_lst (pe_lst (imA i_nil pa_nil))) (nomark _)))))))))))))))))
theorem rec_law_fits (Z : Env K mg) {fd_law_fits : FuncData} (F_law_fits : FunD K d_law_fits.name d_law_fits.qual d_law_fits.params d_law_fits.body d_law_fits.scope (d_law_fits.dvs K) (d_law_fits.kws K) (fAd K d_law_fits.at_) fd_law_fits) : ∀ d : Nat, FnOk P w K mg base (L2.CX P w) (0 + d) (ga K "_law_fits") fd_law_fits ["_law_tree_here", "_law_thing"] (spM K (q_law_fits d))
  | 0 => vac_ok
  | d + 1 => by
    have G_law_fits := rec_law_fits Z F_law_fits d
    exact okA_law_fits d Z F_law_fits G_law_fits
theorem ok_law_fits (Z : Env K mg) : ∃ fd, FnOk P w K mg base (L2.CX P w) 50 (ga K "_law_fits") fd ["_law_tree_here", "_law_thing"] (spM K m_law_fits) ∧ Binds K fd ["_law_tree_here", "_law_thing"] [] ∧ PySem.W.keepIn K (.ref (ga K "_law_fits")) = true := by
  obtain ⟨fd_law_fits, F_law_fits⟩ := Z.c.def_ 37 (d := d_law_fits) rfl
  exact ⟨fd_law_fits, (rec_law_fits Z F_law_fits 50), bi_law_fits F_law_fits, F_law_fits.kp⟩
theorem sc_law_right : FnScope ["_law_found", "_law_one", "_law_other", "_law_some", "_law_thing"] ["_law_found", "_law_one", "_law_other", "_law_some"] (defScope s_law_right) := ⟨rfl, rfl, rfl, by decide +kernel, rfl, by decide +kernel, by decide +kernel⟩
theorem okA_law_right (Z : Env K mg) {fd : FuncData} (F : FunD K d_law_right.name d_law_right.qual d_law_right.params d_law_right.body d_law_right.scope (d_law_right.dvs K) (d_law_right.kws K) (fAd K d_law_right.at_) fd) : FnOk P w K mg base (L2.CX P w) 51 (ga K "_law_right") fd ["_law_found", "_law_one", "_law_other", "_law_some"] (spM K m_law_right) := by
  obtain ⟨fd_law_fits, G_law_fits, b_law_fits, k_law_fits⟩ := ok_law_fits (P := P) (w := w) (base := base) Z
  obtain ⟨fd_is_name, G_is_name, b_is_name, k_is_name⟩ := ok_is_name (P := P) (w := w) (base := base) Z
  have g_Happening := Z.glo 42 (x := "Happening") rfl
  have g__law_fits := Z.glo 57 (x := "_law_fits") rfl
  have g_is_name := Z.glo 21 (x := "is_name") rfl
  have z_bool := Z.free 23 (x := "bool") rfl
  have z_int := Z.free 7 (x := "int") rfl
  have z_isinstance := Z.free 16 (x := "isinstance") rfl
  have hc : Hc K := Z.x 0 (f := hcB) rfl
  have xc : Xc K := Z.x 1 (f := xcB) rfl
  refine F.ok (CX := (L2.CX P w)) sc_law_right (fun vs H Q E h => len_M h) (fun cdv A outer s H vs Q E hr h => ⟨cS K p0 (wE E) b_law_right, ?_, run_M rfl h⟩)
  exact (imSs i_seq (pss_cons (imS i_ifS (ps_if (qt_cmp om_isN (imE i_var (pv 0)) (imE i_non pe_non) (nomark _)) (pss_one (imS i_ret (ps_ret (qe_cmp (om_eqE hr.units) (imE (i_lc (fun _ _ => ⟨.inl rfl, .inl ⟨rfl, rfl⟩⟩) (fun _ h => h)) (pe_lc (own := [("_law_thing", 4)]) rfl sc_law_right.nd (qi_D (imE i_var (pv 3))) (blkOk_by (own := [("_law_thing", 4)]) (N := ["_law_found", "_law_one", "_law_other", "_law_some", "_law_thing"]) (sc := defScope s_law_right) (by decide +kernel)) (fun _ _ _ _ _ => (imG (i_hNm ⟨.inl rfl, .inl ⟨rfl, rfl⟩⟩) (pg_name (i := 4) sc_law_right.nd rfl (Or.inl rfl)))) (fun _ _ _ _ _ => (pts_one (PW.pt (imW i_uAnd (pw_and (imT i_tru (pt_truth (imE i_call (pe_callS G_law_fits (hr.mono (by decide)) (by exact rfl) g__law_fits k_law_fits b_law_fits (fun σ => passAt takes0 σ) (imA i_cons (pa_cons (imE i_var (pv 1)) (imA i_cons (pa_cons (imE i_var (pv 4)) (imA i_nil pa_nil))))))) (by intro _; rfl))) (pw_and1 (imT i_uNot (pt_not (imT i_tru (pt_truth (imE i_call (pe_callS G_law_fits (hr.mono (by decide)) (by exact rfl) g__law_fits k_law_fits b_law_fits (fun σ => passAt takes0 σ) (imA i_cons (pa_cons (imE i_var (pv 2)) (imA i_cons (pa_cons (imE i_var (pv 4)) (imA i_nil pa_nil))))))) (by intro _; rfl))))))))))) (fun _ _ _ _ _ => (imE i_var (pv 4))))) (imE i_lst (pe_lst (imA i_nil pa_nil))) (nomark _))))) (imSs i_next pss_nil)))
    (imSs i_seq (pss_cons (imS i_ifS (ps_if (PW.pt (imW i_uOr (pw_or (imT i_uNot (pt_not (imT i_tru (pt_truth (qe_cb (cm_isi hc) fun _ q => pe_callB q (by rfl) z_isinstance (by decide +kernel) (imA i_cons (pa_cons (imE i_var (pv 0)) (imA i_cons (pa_cons (imE i_cls (pe_glob rfl g_Happening rfl)) (imA i_nil pa_nil)))))) (by intro _; rfl))))) (imW i_uOr (pw_or (imT i_uNot (pt_not (imT i_tru (pt_truth (imE i_call (pe_callS G_is_name (hr.mono (by decide)) (by exact rfl) g_is_name k_is_name b_is_name (fun σ => passAt (takes_of rfl rfl rfl rfl) σ) (imA i_cons (pa_cons (imE (i_fld hc) (pe_fld (imE i_var (pv 0)) rfl)) (imA i_nil pa_nil))))) (by intro _; rfl))))) (pw_or1 (imT i_uNot (pt_not (imT i_tru (pt_truth (imE i_call (pe_callS G_is_name (hr.mono (by decide)) (by exact rfl) g_is_name k_is_name b_is_name (fun σ => passAt (takes_of rfl rfl rfl rfl) σ) (imA i_cons (pa_cons (imE (i_fld hc) (pe_fld (imE i_var (pv 0)) rfl)) (imA i_nil pa_nil))))) (by intro _; rfl))))))))))) (pss_one (imS i_ret (ps_ret (imE i_bl pe_bl)))) (imSs i_next pss_nil)))
    (imSs i_seq (pss_cons (imS (i_asgN ⟨.inl rfl, .inl ⟨rfl, rfl⟩⟩ (fun _ _ _ h => h)) (ps_set (i := 4) sc_law_right.nd rfl (Or.inl rfl) (imE i_tup (pe_tup (imA i_cons (pa_cons (imE (i_fld hc) (pe_fld (imE i_var (pv 0)) rfl)) (imA i_cons (pa_cons (imE (i_fld hc) (pe_fld (imE i_var (pv 0)) rfl)) (imA i_cons (pa_cons (imE (i_fld hc) (pe_fld (imE i_var (pv 0)) rfl)) (imA i_nil pa_nil)))))))))))
    (imSs i_seq (pss_cons (imS i_ifS (ps_if (PW.pt (imW i_uOr (pw_or (imT i_uNot (pt_not (imT i_tru (pt_truth (qe_cb (cm_isi hc) fun _ q => pe_callB q (by rfl) z_isinstance (by decide +kernel) (imA i_cons (pa_cons (imE (i_fld hc) (pe_fld (imE i_var (pv 0)) rfl)) (imA i_cons (pa_cons (imE i_ty (pe_bltn (v := .ty "int") (by rfl) z_int (by decide +kernel) rfl)) (imA i_nil pa_nil)))))) (by intro _; rfl))))) (imW i_uOr (pw_or (imT i_tru (pt_truth (qe_cb (cm_isi hc) fun _ q => pe_callB q (by rfl) z_isinstance (by decide +kernel) (imA i_cons (pa_cons (imE (i_fld hc) (pe_fld (imE i_var (pv 0)) rfl)) (imA i_cons (pa_cons (imE i_ty (pe_bltn (v := .ty "bool") (by rfl) z_bool (by decide +kernel) rfl)) (imA i_nil pa_nil)))))) (by intro _; rfl))) (pw_or1 (qt_cmp om_lt (imE (i_fld hc) (pe_fld (imE i_var (pv 0)) rfl)) (imE i_int pe_int) (nomark _)))))))) (pss_one (imS i_ret (ps_ret (imE i_bl pe_bl)))) (imSs i_next pss_nil)))
    (pss_one (imS i_ret (ps_ret (imE i_and (pe_and (imE i_call (pe_callS G_law_fits (hr.mono (by decide)) (by exact rfl) g__law_fits k_law_fits b_law_fits (fun σ => passAt (takes_of rfl rfl rfl rfl) σ) (imA i_cons (pa_cons (imE i_var (pv 1)) (imA i_cons (pa_cons (imE i_var (pv 4)) (imA i_nil pa_nil))))))) (pe_one (imE i_not (pe_not (imE i_call (pe_callS G_law_fits (hr.mono (by decide)) (by exact rfl) g__law_fits k_law_fits b_law_fits (fun σ => passAt (takes_of rfl rfl rfl rfl) σ) (imA i_cons (pa_cons (imE i_var (pv 2)) (imA i_cons (pa_cons (imE i_var (pv 4)) (imA i_nil pa_nil)))))))))))))))))))))))
theorem ok_law_right (Z : Env K mg) : ∃ fd, FnOk P w K mg base (L2.CX P w) 51 (ga K "_law_right") fd ["_law_found", "_law_one", "_law_other", "_law_some"] (spM K m_law_right) ∧ Binds K fd ["_law_found", "_law_one", "_law_other", "_law_some"] [] ∧ PySem.W.keepIn K (.ref (ga K "_law_right")) = true := by
  obtain ⟨fd, F⟩ := Z.c.def_ 38 (d := d_law_right) rfl
  exact ⟨fd, okA_law_right Z F, F.bindsN fun _ _ _ _ _ _ us hl => match us, hl with | [_, _, _, _], _ => rfl, F.kp⟩
theorem sc_law : FnScope ["_law_script", "_law_one", "_law_state", "_law_way", "_law_other", "_law_some", "_law_first", "_law_second", "_law_k", "_law_found", "_law_word", "_law_name_here", "_law_tree_here"] ["_law_script"] (defScope s_law) := ⟨rfl, rfl, rfl, by decide +kernel, rfl, by decide +kernel, by decide +kernel⟩
theorem okA_law (Z : Env K mg) {fd : FuncData} (F : FunD K d_law.name d_law.qual d_law.params d_law.body d_law.scope (d_law.dvs K) (d_law.kws K) (fAd K d_law.at_) fd) : FnOk P w K mg base CX0 55 (ga K "law") fd ["_law_script"] (sp_law K) := by
  obtain ⟨fd_law_all, G_law_all, b_law_all, k_law_all⟩ := ok_law_all (P := P) (w := w) (base := base) Z
  obtain ⟨fd_law_begin, G_law_begin, b_law_begin, k_law_begin⟩ := ok_law_begin (P := P) (w := w) (base := base) Z
  obtain ⟨fd_law_cell_at, G_law_cell_at, b_law_cell_at, k_law_cell_at⟩ := ok_law_cell_at (P := P) (w := w) (base := base) Z
  obtain ⟨fd_law_leaf, G_law_leaf, b_law_leaf, k_law_leaf⟩ := ok_law_leaf (P := P) (w := w) (base := base) Z
  obtain ⟨fd_law_made, G_law_made, b_law_made, k_law_made⟩ := ok_law_made (P := P) (w := w) (base := base) Z
  obtain ⟨fd_law_next, G_law_next, b_law_next, k_law_next⟩ := ok_law_next (P := P) (w := w) (base := base) Z
  obtain ⟨fd_law_right, G_law_right, b_law_right, k_law_right⟩ := ok_law_right (P := P) (w := w) (base := base) Z
  obtain ⟨fd_law_tree, G_law_tree, b_law_tree, k_law_tree⟩ := ok_law_tree (P := P) (w := w) (base := base) Z
  obtain ⟨fd_parting, G_parting, b_parting, k_parting⟩ := ok_parting (P := P) (w := w) (base := base) Z
  have g__law_all := Z.glo 58 (x := "_law_all") rfl
  have g__law_begin := Z.glo 59 (x := "_law_begin") rfl
  have g__law_cell_at := Z.glo 60 (x := "_law_cell_at") rfl
  have g__law_leaf := Z.glo 5 (x := "_law_leaf") rfl
  have g__law_made := Z.glo 33 (x := "_law_made") rfl
  have g__law_next := Z.glo 0 (x := "_law_next") rfl
  have g__law_right := Z.glo 61 (x := "_law_right") rfl
  have g__law_tree := Z.glo 6 (x := "_law_tree") rfl
  have g_parting := Z.glo 62 (x := "parting") rfl
  have z_range := Z.free 2 (x := "range") rfl
  have hc : Hc K := Z.x 0 (f := hcB) rfl
  have xc : Xc K := Z.x 1 (f := xcB) rfl
  refine F.ok (CX := CX0) sc_law (fun vs H Q E h => by obtain ⟨_, _, rfl, _⟩ := h; rfl) (fun cdv A outer s H vs Q E hr h => ⟨cS K p0 Wn b_law, PSs.nox ?_, run_law rfl h plain⟩)
  exact (imSs i_seq (pss_cons (imS (i_asgN ⟨.inl rfl, .inl ⟨rfl, rfl⟩⟩ (fun _ _ _ h => h)) (ps_set (i := 1) sc_law.nd rfl (Or.inl rfl) (imE i_call (pe_callS G_law_tree (hr.mono (by decide)) (by exact rfl) g__law_tree k_law_tree b_law_tree (fun σ => passAt takes0 σ) (imA i_cons (pa_cons (imE i_call (pe_callS G_law_begin (hr.mono (by decide)) (by exact rfl) g__law_begin k_law_begin b_law_begin (fun σ => passAt takes0 σ) (imA i_cons (pa_cons (imE i_call (pe_callS G_law_cell_at (hr.mono (by decide)) (by exact rfl) g__law_cell_at k_law_cell_at b_law_cell_at (fun σ => passAt takes0 σ) (imA i_cons (pa_cons (imE i_var (pv 0)) (imA i_cons (pa_cons (imE i_int pe_int) (imA i_nil pa_nil))))))) (imA i_nil pa_nil))))) (imA i_cons (pa_cons (imE i_int pe_int) (imA i_cons (pa_cons (imE i_int pe_int) (imA i_nil pa_nil)))))))))))
    (imSs i_seq (pss_cons (imS (i_asgN ⟨.inl rfl, .inl ⟨rfl, rfl⟩⟩ (fun _ _ _ h => h)) (ps_set (i := 2) sc_law.nd rfl (Or.inl rfl) (imE i_call (pe_callS G_law_begin (hr.mono (by decide)) (by exact rfl) g__law_begin k_law_begin b_law_begin (fun σ => passAt takes0 σ) (imA i_cons (pa_cons (imE i_call (pe_callS G_law_cell_at (hr.mono (by decide)) (by exact rfl) g__law_cell_at k_law_cell_at b_law_cell_at (fun σ => passAt takes0 σ) (imA i_cons (pa_cons (imE i_var (pv 0)) (imA i_cons (pa_cons (imE i_int pe_int) (imA i_nil pa_nil))))))) (imA i_nil pa_nil)))))))
    (imSs i_seq (pss_cons (imS (i_asgN ⟨.inl rfl, .inl ⟨rfl, rfl⟩⟩ (fun _ _ _ h => h)) (ps_set (i := 3) sc_law.nd rfl (Or.inl rfl) (qe_op om_mod (imE i_call (pe_callS G_law_cell_at (hr.mono (by decide)) (by exact rfl) g__law_cell_at k_law_cell_at b_law_cell_at (fun σ => passAt takes0 σ) (imA i_cons (pa_cons (imE i_var (pv 0)) (imA i_cons (pa_cons (imE i_int pe_int) (imA i_nil pa_nil))))))) (imE i_int pe_int))))
    (imSs i_seq (pss_cons (imS (i_asgN ⟨.inl rfl, .inl ⟨rfl, rfl⟩⟩ (fun _ _ _ h => h)) (ps_set (i := 4) sc_law.nd rfl (Or.inl rfl) (imE i_call (pe_callS G_law_tree (hr.mono (by decide)) (by exact rfl) g__law_tree k_law_tree b_law_tree (fun σ => passAt takes0 σ) (imA i_cons (pa_cons (imE i_var (pv 2)) (imA i_cons (pa_cons (imE i_int pe_int) (imA i_cons (pa_cons (imE i_int pe_int) (imA i_nil pa_nil)))))))))))
    (imSs i_seq (pss_cons (imS i_ifS (ps_if (qt_cmp (om_eq hr.units) (imE i_var (pv 3)) (imE i_int pe_int) (nomark _)) (pss_one (imS (i_asgN ⟨.inl rfl, .inl ⟨rfl, rfl⟩⟩ (fun _ _ _ h => h)) (ps_set (i := 4) sc_law.nd rfl (Or.inl rfl) (imE i_var (pv 1))))) (imSs i_next pss_nil)))
    (imSs i_seq (pss_cons (imS i_ifS (ps_if (qt_cmp (om_eq hr.units) (imE i_var (pv 3)) (imE i_int pe_int) (nomark _)) (pss_one (imS (i_asgN ⟨.inl rfl, .inl ⟨rfl, rfl⟩⟩ (fun _ _ _ h => h)) (ps_set (i := 4) sc_law.nd rfl (Or.inl rfl) (imE i_tup (pe_tup (imA i_cons (pa_cons (imE i_str pe_str) (imA i_cons (pa_cons (imE i_tup (pe_tup (imA i_cons (pa_cons (imE i_str pe_str) (imA i_cons (pa_cons (imE i_var (pv 1)) (imA i_nil pa_nil))))))) (imA i_nil pa_nil)))))))))) (imSs i_next pss_nil)))
    (imSs i_seq (pss_cons (imS i_ifS (ps_if (qt_cmp (om_eq hr.units) (imE i_var (pv 3)) (imE i_int pe_int) (nomark _)) (pss_one (imS (i_asgN ⟨.inl rfl, .inl ⟨rfl, rfl⟩⟩ (fun _ _ _ h => h)) (ps_set (i := 4) sc_law.nd rfl (Or.inl rfl) (imE i_tup (pe_tup (imA i_cons (pa_cons (qe_ix (imE i_lst (pe_lst (imA i_cons (pa_cons (imE i_str pe_str) (imA i_cons (pa_cons (imE i_str pe_str) (imA i_nil pa_nil))))))) (imE i_call (pe_callS G_law_next (hr.mono (by decide)) (by exact rfl) g__law_next k_law_next b_law_next (fun σ => passAt takes0 σ) (imA i_cons (pa_cons (imE i_var (pv 2)) (imA i_cons (pa_cons (imE i_int pe_int) (imA i_nil pa_nil))))))) (fun _ _ => rfl)) (imA i_cons (pa_cons (imE i_tup (pe_tup (imA i_cons (pa_cons (imE i_var (pv 1)) (imA i_cons (pa_cons (imE i_call (pe_callS G_law_leaf (hr.mono (by decide)) (by exact rfl) g__law_leaf k_law_leaf b_law_leaf (fun σ => passAt takes0 σ) (imA i_cons (pa_cons (imE i_var (pv 2)) (imA i_cons (pa_cons (imE i_int pe_int) (imA i_nil pa_nil))))))) (imA i_nil pa_nil))))))) (imA i_nil pa_nil)))))))))) (imSs i_next pss_nil)))
    (imSs i_seq (pss_cons (imS (i_asgN ⟨.inl rfl, .inl ⟨rfl, rfl⟩⟩ (fun _ _ _ h => h)) (ps_set (i := 5) sc_law.nd rfl (Or.inl rfl) (imE i_call (pe_callS G_law_all (hr.mono (by decide)) (by exact rfl) g__law_all k_law_all b_law_all (fun σ => passAt takes0 σ) (imA i_cons (pa_cons (imE i_lst (pe_lst (imA i_cons (pa_cons (imE i_var (pv 1)) (imA i_cons (pa_cons (imE i_var (pv 4)) (imA i_nil pa_nil))))))) (imA i_nil pa_nil)))))))
    (imSs i_seq (pss_cons (imS (i_asgN ⟨.inl rfl, .inl ⟨rfl, rfl⟩⟩ (fun _ _ _ h => h)) (ps_set (i := 6) sc_law.nd rfl (Or.inl rfl) (imE i_call (pe_callS G_law_made (hr.mono (by decide)) (by exact rfl) g__law_made k_law_made b_law_made (fun σ => passAt takes0 σ) (imA i_cons (pa_cons (imE i_var (pv 1)) (imA i_nil pa_nil)))))))
    (imSs i_seq (pss_cons (imS (i_asgN ⟨.inl rfl, .inl ⟨rfl, rfl⟩⟩ (fun _ _ _ h => h)) (ps_set (i := 7) sc_law.nd rfl (Or.inl rfl) (imE i_call (pe_callS G_law_made (hr.mono (by decide)) (by exact rfl) g__law_made k_law_made b_law_made (fun σ => passAt takes0 σ) (imA i_cons (pa_cons (imE i_var (pv 4)) (imA i_nil pa_nil)))))))
    (imSs i_seq (pss_cons (imS i_for (ps_for PassesOwn.never rfl (imI i_wRng1 (pi_range1 rfl z_range (imA i_cons (pa_cons (imE i_int pe_int) (imA i_nil pa_nil))))) (imG (i_hNm ⟨.inl rfl, .inl ⟨rfl, rfl⟩⟩) (pg_name (i := 8) sc_law.nd rfl (Or.inl rfl)))
    (imSs i_seq (pss_cons (imS i_ifS (ps_if (imT i_uNot (pt_not (imT i_tru (pt_truth (imE i_call (pe_callS G_law_right (hr.mono (by decide)) (by exact rfl) g__law_right k_law_right b_law_right (fun σ => passAt takes0 σ) (imA i_cons (pa_cons (imE i_call (pe_callS G_parting (hr.mono (by decide)) (by exact rfl) g_parting k_parting b_parting (fun σ => passAt takes0 σ) (imA i_cons (pa_cons (imE i_var (pv 6)) (imA i_cons (pa_cons (imE i_var (pv 7)) (imA i_nil pa_nil))))))) (imA i_cons (pa_cons (imE i_var (pv 1)) (imA i_cons (pa_cons (imE i_var (pv 4)) (imA i_cons (pa_cons (imE i_var (pv 5)) (imA i_nil pa_nil))))))))))) (by intro _; rfl))))) (pss_one (imS i_ret (ps_ret (imE i_bl pe_bl)))) (imSs i_next pss_nil)))
    (pss_one (imS i_ifS (ps_if (imT i_uNot (pt_not (imT i_tru (pt_truth (imE i_call (pe_callS G_law_right (hr.mono (by decide)) (by exact rfl) g__law_right k_law_right b_law_right (fun σ => passAt takes0 σ) (imA i_cons (pa_cons (imE i_call (pe_callS G_parting (hr.mono (by decide)) (by exact rfl) g_parting k_parting b_parting (fun σ => passAt takes0 σ) (imA i_cons (pa_cons (imE i_var (pv 7)) (imA i_cons (pa_cons (imE i_var (pv 6)) (imA i_nil pa_nil))))))) (imA i_cons (pa_cons (imE i_var (pv 4)) (imA i_cons (pa_cons (imE i_var (pv 1)) (imA i_cons (pa_cons (imE i_var (pv 5)) (imA i_nil pa_nil))))))))))) (by intro _; rfl))))) (pss_one (imS i_ret (ps_ret (imE i_bl pe_bl)))) (imSs i_next pss_nil))))))))
    (imSs i_seq (pss_cons (imS (i_asgN ⟨.inl rfl, .inl ⟨rfl, rfl⟩⟩ (fun _ _ _ h => h)) (ps_set (i := 9) sc_law.nd rfl (Or.inl rfl) (imE i_call (pe_callS G_parting (hr.mono (by decide)) (by exact rfl) g_parting k_parting b_parting (fun σ => passAt takes0 σ) (imA i_cons (pa_cons (imE i_var (pv 6)) (imA i_cons (pa_cons (imE i_var (pv 7)) (imA i_nil pa_nil)))))))))
    (imSs i_seq (pss_cons (imS i_ifS (ps_if (qt_cmp om_notN (imE i_var (pv 9)) (imE i_non pe_non) (nomark _)) (pss_one (imS i_for (ps_for PassesOwn.never rfl (qi_D (imE i_lst (pe_lst (imA i_cons (pa_cons (imE i_tup (pe_tup (imA i_cons (pa_cons (imE i_str pe_str) (imA i_cons (pa_cons (imE (i_fld hc) (pe_fld (imE i_var (pv 9)) rfl)) (imA i_nil pa_nil))))))) (imA i_cons (pa_cons (imE i_tup (pe_tup (imA i_cons (pa_cons (imE i_str pe_str) (imA i_cons (pa_cons (imE (i_fld hc) (pe_fld (imE i_var (pv 9)) rfl)) (imA i_nil pa_nil))))))) (imA i_nil pa_nil)))))))) (imG i_hTup (pg_tup (by rfl) (imGs (i_hCons (ws := [10])) (pgs_cons (imG (i_hNm ⟨.inl rfl, .inl ⟨rfl, rfl⟩⟩) (pg_name (i := 10) sc_law.nd rfl (Or.inl rfl))) (imGs (i_hCons (ws := [11])) (pgs_cons (imG (i_hNm ⟨.inl rfl, .inl ⟨rfl, rfl⟩⟩) (pg_name (i := 11) sc_law.nd rfl (Or.inl rfl))) (imGs i_hNil pgs_nil)))))))
    (imSs i_seq (pss_cons (imS (i_asgN ⟨.inl rfl, .inl ⟨rfl, rfl⟩⟩ (fun _ _ _ h => h)) (ps_set (i := 12) sc_law.nd rfl (Or.inl rfl) (imE i_tup (pe_tup (imA i_cons (pa_cons (imE i_str pe_str) (imA i_cons (pa_cons (imE i_tup (pe_tup (imA i_cons (pa_cons (imE i_var (pv 1)) (imA i_cons (pa_cons (imE i_tup (pe_tup (imA i_cons (pa_cons (imE i_str pe_str) (imA i_cons (pa_cons (imE i_tup (pe_tup (imA i_cons (pa_cons (imE i_var (pv 10)) (imA i_cons (pa_cons (imE i_tup (pe_tup (imA i_cons (pa_cons (imE i_var (pv 11)) (imA i_nil pa_nil))))) (imA i_nil pa_nil))))))) (imA i_nil pa_nil))))))) (imA i_nil pa_nil))))))) (imA i_nil pa_nil)))))))))
    (pss_one (imS i_ifS (ps_if (imT i_uNot (pt_not (imT i_tru (pt_truth (imE i_call (pe_callS G_law_right (hr.mono (by decide)) (by exact rfl) g__law_right k_law_right b_law_right (fun σ => passAt takes0 σ) (imA i_cons (pa_cons (imE i_call (pe_callS G_parting (hr.mono (by decide)) (by exact rfl) g_parting k_parting b_parting (fun σ => passAt takes0 σ) (imA i_cons (pa_cons (imE i_call (pe_callS G_law_made (hr.mono (by decide)) (by exact rfl) g__law_made k_law_made b_law_made (fun σ => passAt takes0 σ) (imA i_cons (pa_cons (imE i_var (pv 12)) (imA i_nil pa_nil))))) (imA i_cons (pa_cons (imE i_var (pv 7)) (imA i_nil pa_nil))))))) (imA i_cons (pa_cons (imE i_var (pv 12)) (imA i_cons (pa_cons (imE i_var (pv 4)) (imA i_cons (pa_cons (imE i_call (pe_callS G_law_all (hr.mono (by decide)) (by exact rfl) g__law_all k_law_all b_law_all (fun σ => passAt takes0 σ) (imA i_cons (pa_cons (imE i_lst (pe_lst (imA i_cons (pa_cons (imE i_var (pv 12)) (imA i_cons (pa_cons (imE i_var (pv 4)) (imA i_nil pa_nil))))))) (imA i_nil pa_nil))))) (imA i_nil pa_nil))))))))))) (by intro _; rfl))))) (pss_one (imS i_ret (ps_ret (imE i_bl pe_bl)))) (imSs i_next pss_nil))))))))) (imSs i_next pss_nil)))
    (pss_one (imS i_ret (ps_ret (imE i_and (pe_and (qe_cmp om_isN (imE i_call (pe_callS G_parting (hr.mono (by decide)) (by exact rfl) g_parting k_parting b_parting (fun σ => passAt takes0 σ) (imA i_cons (pa_cons (imE i_var (pv 6)) (imA i_cons (pa_cons (imE i_var (pv 6)) (imA i_nil pa_nil))))))) (imE i_non pe_non) (nomark _)) (pe_one (qe_cmp om_isN (imE i_call (pe_callS G_parting (hr.mono (by decide)) (by exact rfl) g_parting k_parting b_parting (fun σ => passAt takes0 σ) (imA i_cons (pa_cons (imE i_var (pv 7)) (imA i_cons (pa_cons (imE i_var (pv 7)) (imA i_nil pa_nil))))))) (imE i_non pe_non) (nomark _))))))))))))))))))))))))))))))))))
theorem ok_law (Z : Env K mg) : ∃ fd, FnOk P w K mg base CX0 55 (ga K "law") fd ["_law_script"] (sp_law K) ∧ Binds K fd ["_law_script"] [] ∧ PySem.W.keepIn K (.ref (ga K "law")) = true := by
  obtain ⟨fd, F⟩ := Z.c.def_ 39 (d := d_law) rfl
  exact ⟨fd, okA_law Z F, F.bindsN fun _ _ _ _ _ _ us hl => match us, hl with | [_], _ => rfl, F.kp⟩
end
/-! ### the head -/
abbrev R : PySem.W.OpenRow := PySem.W.OpenLaw.row PySem.Challenge.rw_bellsaway_k10_what_parts_two_fits
abbrev hk : PySem.W.Hook := hookM 4
def ob (s : PySem.W.SharedT) : AlM := obsM 4 (HandSHeadRun.getT s)
theorem ob_eq (s : PySem.W.SharedT) : ob s = hk.obs s.abs := by
  have e : HandSHeadRun.getT s = s.abs.heap.get? := funext (HandSHeadRun.getT_eq s)
  show obsM _ _ = obsM _ _
  rw [e]
section
open PySem.W PySem.Calls HandSHeadRun
/-! the run's equation in five, for the kernel's room: each runs the top anew -/
theorem run_a (w : World) : ∀ os : OsState, (endF (stepQ (denQ tabQ) R.prog w) 12000 R.prog w os).map (fun s => (looksF R.prog (boot_heap w.params) s.abs, seenQ (PySem.W.view R.prog [43]) ("BellError" :: "NoHappening" :: "NoFit" :: "is_whole" :: "LETTERS" :: "MOST_LETTERS" :: "is_name" :: "are_names" :: "is_weight" :: "Happening" :: "word_of" :: "name_beside" :: "Fit" :: "Any" :: "Named" :: "Kind" :: "Place" :: "Least" :: "Not" :: "Several" :: "Both" :: "Either" :: "Turns" :: "with_one_more" :: "found_where" :: "parting" :: "_law_cell_at" :: "_law_begin" :: "_law_next" :: "_law_name" :: "_law_leaf" :: "_law_tree" :: "_law_made" :: "_law_fits" :: "_law_gathered" :: "_law_beside" :: "_law_all" :: "_law_right" :: []) (importedModules R.prog.main.body) (fun s => xlAt (PySem.W.view R.prog [43]) [] s && recOk R.toRowW.records s) s.abs)) = some (true, openGood (PySem.W.view R.prog [43]) ("BellError" :: "NoHappening" :: "NoFit" :: "is_whole" :: "LETTERS" :: "MOST_LETTERS" :: "is_name" :: "are_names" :: "is_weight" :: "Happening" :: "word_of" :: "name_beside" :: "Fit" :: "Any" :: "Named" :: "Kind" :: "Place" :: "Least" :: "Not" :: "Several" :: "Both" :: "Either" :: "Turns" :: "with_one_more" :: "found_where" :: "parting" :: "_law_cell_at" :: "_law_begin" :: "_law_next" :: "_law_name" :: "_law_leaf" :: "_law_tree" :: "_law_made" :: "_law_fits" :: "_law_gathered" :: "_law_beside" :: "_law_all" :: "_law_right" :: [])) := by
  intro os
  kernel_rfl
theorem run_b (w : World) : ∀ os : OsState, (endF (stepQ (denQ tabQ) R.prog w) 12000 R.prog w os).map (fun s => frK 4 (HandSHeadRun.getT s) fun K => fa.all fun f => f.ok K) = some true := by
  intro os
  kernel_rfl
theorem run_c (w : World) : ∀ os : OsState, (endF (stepQ (denQ tabQ) R.prog w) 12000 R.prog w os).map (fun s => frK 4 (HandSHeadRun.getT s) fun K => (fn.take 45).all fun d => d.ok K) = some true := by
  intro os
  kernel_rfl
theorem run_d (w : World) : ∀ os : OsState, (endF (stepQ (denQ tabQ) R.prog w) 12000 R.prog w os).map (fun s => frK 4 (HandSHeadRun.getT s) fun K => (fn.drop 45).all fun d => d.ok K) = some true := by
  intro os
  kernel_rfl
theorem run_e (w : World) : ∀ os : OsState, (endF (stepQ (denQ tabQ) R.prog w) 12000 R.prog w os).map (fun s => frK 4 (HandSHeadRun.getT s) fun K => (fn.map fun d => fnW K d.at_, (xs.all fun f => f K) && He.tabsB (HandSHeadRun.getT s) tf K)) = some (fn.map DefD.val, true) := by
  intro os
  kernel_rfl
theorem run_two {α A B : Type} {x : Option α} {f : α → A} {g : α → B} {a : A} {b : B} (e1 : x.map f = some a) (e2 : x.map g = some b) : x.map (fun s => (f s, g s)) = some (a, b) := by
  cases x with
  | none => cases e1
  | some s => exact congrArg some (Prod.ext (Option.some.inj e1) (Option.some.inj e2))
theorem run_end {α A B : Type} {x : Option α} {f : α → A} {h : α → B} {a : A} {b : B} (e : x.map f = some a) (J : ∀ s, f s = a → h s = b) : x.map h = some b := by
  cases x with
  | none => cases e
  | some s => exact congrArg some (J s (Option.some.inj e))
theorem run (w : World) : HandSHeadRun.RunEq R (PySem.W.view R.prog [43]) hk ob 12000 ("BellError" :: "NoHappening" :: "NoFit" :: "is_whole" :: "LETTERS" :: "MOST_LETTERS" :: "is_name" :: "are_names" :: "is_weight" :: "Happening" :: "word_of" :: "name_beside" :: "Fit" :: "Any" :: "Named" :: "Kind" :: "Place" :: "Least" :: "Not" :: "Several" :: "Both" :: "Either" :: "Turns" :: "with_one_more" :: "found_where" :: "parting" :: "_law_cell_at" :: "_law_begin" :: "_law_next" :: "_law_name" :: "_law_leaf" :: "_law_tree" :: "_law_made" :: "_law_fits" :: "_law_gathered" :: "_law_beside" :: "_law_all" :: "_law_right" :: []) w := by
  intro os
  refine run_end (run_two (run_a w os) (run_two (run_b w os) (run_two (run_c w os) (run_two (run_d w os) (run_e w os))))) fun s e => ?_
  obtain ⟨e1, e⟩ := Prod.mk.inj e
  obtain ⟨e2, e⟩ := Prod.mk.inj e
  obtain ⟨e3, e⟩ := Prod.mk.inj e
  obtain ⟨e4, e5⟩ := Prod.mk.inj e
  obtain ⟨K, _, hK⟩ := frK_eq 4 (HandSHeadRun.getT s)
  have e2 := (hK _ _).symm.trans e2
  have e3 := (hK _ _).symm.trans e3
  have e4 := (hK _ _).symm.trans e4
  have e5 := (hK _ _).symm.trans e5
  obtain ⟨c2, c3⟩ := Prod.mk.inj e5
  obtain ⟨h1, h2⟩ := Prod.mk.inj e1
  have c1 : (fn.all fun d => d.ok K) = true := by
    rw [← List.take_append_drop 45 fn, List.all_append]
    exact Bool.and_eq_true_iff.mpr ⟨e3, e4⟩
  have e6 : ob s = (valD fn, true) := by
    refine (hK _ fun K => (obsD fa fn K, (xs.all fun f => f K) && He.tabsB (HandSHeadRun.getT s) tf K)).trans ?_
    refine Prod.ext (Prod.ext ?_ c2) c3
    exact Bool.and_eq_true_iff.mpr ⟨e2, c1⟩
  exact Prod.ext h1 (Prod.ext h2 e6)
end
theorem walk_ofET {l : PySem.W.OpenLaw} {n k : Nat} {q : Program} {loose : List Str} {XP : (Str → Option Value) → Heap → Prop} {YP : World → Heap → Prop} {d : DefRec} {CX : CXT} {x : Str}
    (hn : l.most = some n) (hm : n ≤ sizeLine) (nod : d.params.defaults = []) (hr : Room k callerA)
    (F : ∀ (w : World) (mg : Str → Option Value) (fa : Addr) (h : Heap), YP w h → h.Ns mainGlobals mg → mg d.name = some (.ref fa) →
      ∃ (K : PySem.W.Frag) (fd : FuncData) (sp : Sp), K.In h ∧ TabsE K h ∧ (∀ (s : Shared) (u : Value), BindsTo s fd ⟨[u], []⟩ [(x, u)]) ∧
        (∀ (H : Hp) (a : Addr) (ns : List Int), ns.length ≤ n → (∀ p ∈ tf.map (He.cT K), H p.2 = some (.tbl #[])) → SqL K H a (ns.map V.int) → sp [.ref a] H (fun v _ => v = .bl true) fun _ _ _ => False) ∧
        ∀ base : Heap, K.In base → base.Ns mainGlobals mg → (∀ p ∈ tf.map (He.cT K), LamX.TabB base mg p.1 p.2) → FnOk l.prog w K mg base CX k fa fd [x] sp)
    (hCX : ∀ (H : Hp) (s : Shared) (e : Value) (s' : Shared), CX [] H s (fun _ _ _ => False) e s' → False) : PySem.W.WalkO q loose XP YP l.row.toRowW d [] (fun f vs => PySem.call f vs) := by
  refine Att.attach_call hn nod fun w s0 s1 mg mb fa o pm cd doc a vs ns G Y ho hd hcd hmg hobj hints hlen hg => ?_
  obtain ⟨K, fd, sp, KX, hT, hb, hsp, hF⟩ := F w mg fa _ Y G.T.g hmg
  have tb : ∀ p ∈ tf.map (He.cT K), ∃ r ∈ tf, He.cT K r = p := fun p hp => List.mem_map.mp hp
  refine LamX.law_callTs (cs := tf.map (He.cT K)) KX G.T.g G.T.b G.T.builtins G.T.nolimit hg (fun p hp => ?_) (fun p hp => ?_) (fun p hp => ?_) G.T.bmain hobj hints (Nat.le_trans hlen hm) hr hF hb (fun H hH hS => hsp H a ns hlen hH hS) fun H e s' => hCX H s1 e s'
  · obtain ⟨r, hr2, rfl⟩ := tb p hp
    exact (hT r hr2).2.2
  · obtain ⟨r, hr2, rfl⟩ := tb p hp
    exact (hT r hr2).2.1
  · obtain ⟨r, hr2, rfl⟩ := tb p hp
    exact PySem.W.codeHd_of_K KX (hT r hr2).1
theorem facts {P : Program} {w : World} {K : PySem.W.Frag} {h : Heap} {mg : Str → Option Value} {f : Addr} (X : K.In h) (G : h.Ns mainGlobals mg) (hfa : mg ("law" : Str) = some (.ref f)) (c : He.SaysD fa fn K ∧ (xs.all fun f => f K) = true) :
    ∃ fd : FuncData, (∀ (s : Shared) (v : Value), BindsTo s fd ⟨[v], []⟩ [("_law_script", v)]) ∧ ∀ base : Heap, K.In base → base.Ns mainGlobals mg → (∀ p ∈ tf.map (He.cT K), LamX.TabB base mg p.1 p.2) → FnOk P w K mg base CX0 55 f fd ["_law_script"] (sp_law K) := by
  have Z : Env K mg := ⟨c.1, ⟨h, X, G⟩, c.2⟩
  obtain ⟨fd, F⟩ := c.1.def_ 39 (d := d_law) rfl
  have e := hfa.symm.trans (Z.glo 63 rfl)
  cases e
  have b := FunD.bindsA (ps := ["_law_script"]) F fun _ _ _ _ _ _ us hl => match us, hl with | [_], _ => rfl
  exact ⟨fd, fun s v => b s [v] rfl, fun base _ _ hT => haveI : TbF K mg base := ⟨fun p hp => hT _ (List.mem_map.mpr ⟨p, hp, rfl⟩)⟩; okA_law Z F⟩
end Pr
open PySem PySem.W PySem.Calls PyProof.Rows
set_option maxRecDepth 100000 in
set_option maxHeartbeats 0 in
theorem PySem.Challenge.cw_bellsaway_k10_what_parts_two_fits_holds : PySem.Challenge.rw_bellsaway_k10_what_parts_two_fits.Holds := by
  w_on; o_law
  refine HandSHeadRun.head_any (r := OpenLaw.row PySem.Challenge.rw_bellsaway_k10_what_parts_two_fits) (q := view (OpenLaw.row PySem.Challenge.rw_bellsaway_k10_what_parts_two_fits).prog [43]) (H := Pr.hk) (ob := Pr.ob) (M := 12000) (loose := ("BellError" :: "NoHappening" :: "NoFit" :: "is_whole" :: "LETTERS" :: "MOST_LETTERS" :: "is_name" :: "are_names" :: "is_weight" :: "Happening" :: "word_of" :: "name_beside" :: "Fit" :: "Any" :: "Named" :: "Kind" :: "Place" :: "Least" :: "Not" :: "Several" :: "Both" :: "Either" :: "Turns" :: "with_one_more" :: "found_where" :: "parting" :: "_law_cell_at" :: "_law_begin" :: "_law_next" :: "_law_name" :: "_law_leaf" :: "_law_tree" :: "_law_made" :: "_law_fits" :: "_law_gathered" :: "_law_beside" :: "_law_all" :: "_law_right" :: [])) (d := HandSHeadRun.topDef (OpenLaw.row PySem.Challenge.rw_bellsaway_k10_what_parts_two_fits).prog 43) (kwd := []) Pr.ob_eq
    (by kernel_rfl) (fun s => by kernel_rfl) Pr.run (by kernel_rfl) (by kernel_rfl) (by kernel_rfl) (by rfl) (by first | assumption | decide +kernel) (by decide +kernel) ⟨rfl, rfl, rfl, rfl, rfl, by decide +kernel⟩ ?hw ?hc
  case hw => w_witness2
  case hc =>
    refine Pr.walk_ofET (l := PySem.Challenge.rw_bellsaway_k10_what_parts_two_fits) (n := 63) (k := 55) (x := "_law_script") (CX := L2.CX0) rfl (by decide) (by kernel_rfl) ⟨rfl, by decide, by decide⟩ ?F (fun _ _ _ _ z => z)
    intro w mg fa h Y G hmg0
    obtain ⟨K, KX, c, tE⟩ := Y
    have hmg : mg ("law" : PySem.Str) = some (.ref fa) := by
      have e : (HandSHeadRun.topDef (OpenLaw.row PySem.Challenge.rw_bellsaway_k10_what_parts_two_fits).prog 43).name = ("law" : PySem.Str) := by kernel_rfl
      rw [← e]
      exact hmg0
    obtain ⟨fd, hb, hF⟩ := Pr.facts (P := (PySem.Challenge.rw_bellsaway_k10_what_parts_two_fits).prog) (w := w) KX G hmg c
    exact ⟨K, fd, Pr.sp_law K, KX, tE, hb, fun H a ns hl hT hS => ⟨a, ns, rfl, hS, hl, fun p hp => hT _ (List.mem_map.mpr ⟨p, hp, rfl⟩), fun _ => rfl⟩, hF⟩

