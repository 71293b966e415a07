import PyProof.Rows.All
import Wide.All
import OpenK.AllK
import Wide.FinOn
import KE.KStateDown
import KE.KExcIs
import HandS.Base
import HandS.Call
import HandS.CallSlots
import HandS.List
import HandS.Comp
import HandS.Ends
import HandS.Dict
import HandS.Iter
import HandS.Text
import HandS.More
import HandS.Words
import HandS.WordsList
import HandS.WordsDict
import HandS.Exc
import HandS.ExcOwn
import HandS.ExcInit
import HandS.TryOnly
import HandS.WordsExc
import HandS.Defaults
import HandS.Flow
import HandS.IsInst
import HandS.Style
import HandS.ExcIs
import HandS.ExcField
import HandS.Evl
import HandS.Wide
import HandS.Walk
import HandS.MakeKw
import HandS.MakeKwOnly
import HandS.Zip
import HandS.Head0
import HandS.Head1
import HandS.Head2
import HandS.HeadEnd
import HandS.HeadHook1
import HandS.HeadHook2
import HandS.Conv
import HandS.Sort
import HandS.SortInts
import HandS.Strs
import HandS.StrMore
import HandS.StrSplit
import HandS.SuiteRaise
import HandS.RaiseFrom
import HandS.HotCalls
import HandS.TryMany
import HandS.Nested
import HandS.Lambda
import HandS.ExcInitHot
import HandS.CallLocal
import HandS.Codes
import HandS.Replace
import HandS.ReplaceLit
import PySem.Challenge.RW_bellsaway_k19_texts_of_fits_spoilt
set_option Elab.async false
set_option linter.all false
set_option maxRecDepth 100000
set_option maxHeartbeats 4000000
/-! ## own stepping layer: one lemma a reading -/
namespace Vs
open PySem PySem.Spec PyProof.Rows L2

/-! ### frames of heaps -/
/-- all but l stands -/
def Kp (l : Addr) (H H' : Hp) : Prop := ∀ b o, H b = some o → b ≠ l → H' b = some o
theorem Kp.refl (l : Addr) (H : Hp) : Kp l H H := fun _ _ h _ => h
theorem Kp.trans {l : Addr} {H H1 H2 : Hp} (a : Kp l H H1) (b : Kp l H1 H2) : Kp l H H2 := fun x o h n => b x o (a x o h n) n
theorem Kp.upd {l : Addr} {H H1 : Hp} {o : HO} (a : Kp l H H1) : Kp l H (upd H1 l o) := fun x u h n => by rw [upd_ne n]; exact a x u h n
theorem Kp.new {l p : Addr} {H H1 : Hp} {o : HO} (a : Kp l H H1) (hp : H1 p = none) : Kp l H (L2.upd H1 p o) := fun x u h n => by
  have h1 := a x u h n
  rw [upd_ne (ne_of_none h1 hp)]; exact h1
theorem Same.new {p : Addr} {H H1 : Hp} {o : HO} (a : Same H H1) (hp : H1 p = none) : Same H (L2.upd H1 p o) := fun x u h => by
  have h1 := a x u h
  rw [upd_ne (ne_of_none h1 hp)]; exact h1
theorem Kp.updn {l p : Addr} {H H1 : Hp} {o : HO} (a : Kp l H H1) (hp : H p = none) : Kp l H (L2.upd H1 p o) := fun x u h n => by
  have h1 := a x u h n
  rw [upd_ne (ne_of_none h hp)]; exact h1
theorem Same.updn {p : Addr} {H H1 : Hp} {o : HO} (a : Same H H1) (hp : H p = none) : Same H (L2.upd H1 p o) := fun x u h => by
  have h1 := a x u h
  rw [upd_ne (ne_of_none h hp)]; exact h1
theorem Same.kp {l : Addr} {H H1 : Hp} (a : Same H H1) : Kp l H H1 := fun x u h _ => a x u h
theorem Kp.same {l : Addr} {H H1 H2 : Hp} (a : Kp l H H1) (b : Same H1 H2) : Kp l H H2 := fun x o h n => b x o (a x o h n)
theorem Same.kpt {l : Addr} {H H1 H2 : Hp} (a : Same H H1) (b : Kp l H1 H2) : Kp l H H2 := fun x o h n => b x o (a x o h) n
theorem Kp.at {l b : Addr} {H H' : Hp} {o : HO} (k : Kp l H H') (h : H b = some o) (n : b ≠ l) : H' b = some o := k b o h n
theorem free_back {H H' : Hp} {l p : Addr} {o : HO} (k : Kp l H H') (h : H' p = none) (hl : H' l = some o) : H p = none := by
  cases e : H p with
  | none => rfl
  | some u =>
    by_cases n : p = l
    · rw [n, hl] at h; cases h
    · rw [k p u e n] at h; cases h

theorem upd_old {H : Hp} {b p : Addr} {o u : HO} (hp : H p = none) (h : H b = some o) : L2.upd H p u b = some o := by rw [upd_ne (ne_of_none h hp)]; exact h
theorem Kp.seq {K : PySem.W.Frag} {l a : Addr} {H H' : Hp} {xs : List V} (k : Kp l H H') (n : a ≠ l) (h : SqL K H a xs) : SqL K H' a xs := by
  rcases h with (h | ⟨o, h⟩) | h
  · exact .inl (.inl (k _ _ h n))
  · exact .inl (.inr ⟨o, k _ _ h n⟩)
  · exact .inr h
theorem Kp.seqn {K : PySem.W.Frag} {l a : Addr} {H H' : Hp} {xs : List V} (k : Kp l H H') (hl : H l = none) (h : SqL K H a xs) : SqL K H' a xs := by
  rcases h with (h | ⟨o, h⟩) | h
  · exact .inl (.inl (k _ _ h (ne_of_none h hl)))
  · exact .inl (.inr ⟨o, k _ _ h (ne_of_none h hl)⟩)
  · exact .inr h
theorem Same.ofKp {l : Addr} {H H1 H2 : Hp} {o : HO} (s : Same H H1) (hl : H1 l = none) (k : Kp l (L2.upd H1 l o) H2) : Same H H2 := fun b u h => by
  have h1 := s b u h
  have n := ne_of_none h1 hl
  exact k b u (by rw [upd_ne n]; exact h1) n
/-! ### what is new -/
def dif (H H' : Hp) : Hp := fun b => match H b with
  | none => H' b
  | some _ => none
theorem dif_at {H H' : Hp} {b : Addr} {o : HO} (h : H b = none) (h' : H' b = some o) : dif H H' b = some o := by unfold dif; rw [h]; exact h'
theorem dif_none {H H' : Hp} {b : Addr} {o : HO} (h : H b = some o) : dif H H' b = none := by unfold dif; rw [h]
theorem dif_same {H H' : Hp} : Same (dif H H') H' := fun b o h => by
  unfold dif at h
  cases e : H b with
  | none => rw [e] at h; exact h
  | some u => rw [e] at h; cases h
theorem dif_old {H H' : Hp} {b : Addr} {o : HO} (h : dif H H' b = some o) : H b = none := by
  unfold dif at h
  cases e : H b with
  | none => rfl
  | some u => rw [e] at h; cases h
theorem Same.kpn {l : Addr} {P H H' : Hp} (a : Same P H) (k : Kp l H H') (n : P l = none) : Same P H' := fun b o h => k b o (a b o h) (ne_of_none h n)
/-! ### the law's list of cells -/
theorem cutV_len (xs : List V) (lo hi : Option Int) : (cutV xs lo hi).length ≤ xs.length := by
  unfold cutV
  rw [List.length_take, List.length_drop]
  omega
theorem cutV_mem {xs : List V} {lo hi : Option Int} {x : V} (h : x ∈ cutV xs lo hi) : x ∈ xs := List.mem_of_mem_drop (List.mem_of_mem_take h)
theorem cells_int {ns : List Int} {c : Int} {lo hi : Option Int} {x : V} (h : x ∈ [V.int c] ++ cutV (ns.map V.int) lo hi) : ∃ z, x = .int z := by
  rcases List.mem_append.mp h with h | h
  · exact ⟨c, by simpa using h⟩
  · obtain ⟨z, _, e⟩ := List.mem_map.mp (cutV_mem h)
    exact ⟨z, e.symm⟩
theorem cells_len {ns : List Int} {c : Int} {lo hi : Option Int} (h : ns.length ≤ 63) : [V.int c].length + (cutV (ns.map V.int) lo hi).length ≤ sizeLine := by
  have h1 := cutV_len (ns.map V.int) lo hi
  rw [List.length_map] at h1
  have h2 : (64 : Nat) ≤ sizeLine := by rw [sizeLine_eq]; decide
  simp only [List.length_cons, List.length_nil]
  omega
/-! ### readings, one step each -/
section
variable {K : PySem.W.Frag} {σ : L2.St} {H : Hp} {Q : VK} {ta tb te tc : TE} {x y v : V} {r r' : R2} {T U : TT} {B : Bool → Hp → Prop} {D : Ends} {i j : Int}
theorem r_var {n : Nat} (h : σ[n]? = some (some v)) (q : Q v H) : tVar n σ H Q := ⟨v, h, q⟩
theorem r_c (q : Q v H) : tC v σ H Q := q
theorem r_op (q : ta σ H fun x H1 => tb σ H1 fun y H2 => r x y H2 Q) : tOp r ta tb σ H Q := q
theorem r_un {r : V → Hp → VK → Prop} (q : ta σ H fun x H1 => r x H1 Q) : tUn r ta σ H Q := q
theorem r_I0 {g : Int → Int → V} (q : Q (g i j) H) : rI0 g (.int i) (.int j) H Q := ⟨i, j, rfl, rfl, q⟩
theorem r_I {C : Int → Int → Prop} {g : Int → Int → V} (c : C i j) (q : Q (g i j) H) : rI C g (.int i) (.int j) H Q := ⟨i, j, rfl, rfl, c, q⟩
theorem r_U {g : Int → V} (q : Q (g i) H) : rU g (.int i) H Q := ⟨i, rfl, q⟩
theorem r_eqI (q : Q (.bl (decide (i = j))) H) : rEq (.int i) (.int j) H Q := ⟨rfl, by
  have e : decide (V.int i = V.int j) = decide (i = j) := by simp
  rw [e]; exact q⟩
theorem r_neI (q : Q (.bl (!decide (i = j))) H) : rNe (.int i) (.int j) H Q := ⟨rfl, by
  have e : decide (V.int i = V.int j) = decide (i = j) := by simp
  rw [e]; exact q⟩
theorem r_eqB {a b : Bool} (q : Q (.bl (decide (a = b))) H) : rEq (.bl a) (.bl b) H Q := ⟨rfl, by
  have e : decide (V.bl a = V.bl b) = decide (a = b) := by simp
  rw [e]; exact q⟩
theorem r_neB {a b : Bool} (q : Q (.bl (!decide (a = b))) H) : rNe (.bl a) (.bl b) H Q := ⟨rfl, by
  have e : decide (V.bl a = V.bl b) = decide (a = b) := by simp
  rw [e]; exact q⟩
theorem r_eqS {a b : Str} (q : Q (.bl (decide (a = b))) H) : rEq (.str a) (.str b) H Q := ⟨rfl, by
  have e : decide (V.str a = V.str b) = decide (a = b) := by simp
  rw [e]; exact q⟩
theorem r_neS {a b : Str} (q : Q (.bl (!decide (a = b))) H) : rNe (.str a) (.str b) H Q := ⟨rfl, by
  have e : decide (V.str a = V.str b) = decide (a = b) := by simp
  rw [e]; exact q⟩
theorem r_test (q : te σ H fun x H1 => ∃ k, x = .bl k ∧ B k H1) : tTest te σ H B := q
theorem r_tB (q : te σ H fun x H1 => ∃ k, x = .bl k ∧ B k H1) : tB te σ H B := q
theorem r_isbl {k : Bool} {P : Bool → Prop} (q : P k) : ∃ c, V.bl k = .bl c ∧ P c := ⟨k, rfl, q⟩
theorem r_and (q : T σ H fun c H1 => if c = true then U σ H1 B else B false H1) : tAnd T U σ H B := q
theorem r_or (q : T σ H fun c H1 => if c = true then B true H1 else U σ H1 B) : tOr T U σ H B := q
theorem r_not (q : T σ H fun c H1 => B (!c) H1) : tNot T σ H B := q
theorem r_andV (q : ta σ H fun x H1 => ∃ c, x = .bl c ∧ if c = true then tb σ H1 Q else Q (.bl false) H1) : tAndV ta tb σ H Q := q
theorem r_orV (q : ta σ H fun x H1 => ∃ c, x = .bl c ∧ if c = true then Q (.bl true) H1 else tb σ H1 Q) : tOrV ta tb σ H Q := q
theorem r_notV (q : ta σ H fun x H1 => ∃ c, x = .bl c ∧ Q (.bl (!c)) H1) : tNotV ta σ H Q := q
theorem r_if (q : T σ H fun c H1 => if c = true then ta σ H1 Q else tb σ H1 Q) : tIf T ta tb σ H Q := q
theorem r_chain (q : ta σ H fun x H1 => tb σ H1 fun y H2 => r x y H2 fun z H3 => ∃ k, z = .bl k ∧ (if k = true then tc σ H3 fun w' H4 => r' y w' H4 Q else Q (.bl false) H3)) : tChain r r' ta tb tc σ H Q := q
theorem r_nil {A : List V → Hp → Prop} (q : A [] H) : tNil σ H A := q
theorem r_cons {tr : TA} {A : List V → Hp → Prop} (q : ta σ H fun x H1 => tr σ H1 fun xs H2 => A (x :: xs) H2) : tCons ta tr σ H A := q
theorem r_tup {t : TA} (q : t σ H fun xs H1 => xs.length ≤ sizeLine ∧ ∀ p, H1 p = none → Q (.ref p) (upd H1 p (.tup xs))) : tTup t σ H Q := q
theorem r_lst {t : TA} (q : t σ H fun xs H1 => xs.length ≤ sizeLine ∧ ∀ p, H1 p = none → Q (.ref p) (upd H1 p (.lst xs))) : tLst t σ H Q := q
theorem r_size {xs : List V} {P : Prop} (h : xs.length ≤ 1000) (q : P) : xs.length ≤ sizeLine ∧ P := ⟨Nat.le_trans h (by rw [sizeLine_eq]; decide), q⟩
theorem r_call {sp : Sp} {dvs : List V} {E : XK} {t : TA} (q : t σ H fun vs H1 => sp (vs ++ dvs) H1 Q E) : tCall sp dvs E t σ H Q := q
theorem r_call0 {sp : Sp} {E : XK} {t : TA} (q : t σ H fun vs H1 => sp vs H1 Q E) : tCall sp [] E t σ H Q := by
  show t σ H fun vs H1 => sp (vs ++ []) H1 Q E
  have e : (fun vs H1 => sp (vs ++ []) H1 Q E) = fun vs H1 => sp vs H1 Q E := by funext vs H1; rw [List.append_nil]
  rw [e]; exact q
theorem r_cb {r : List V → Hp → VK → Prop} {t : TA} (q : t σ H fun vs H1 => r vs H1 Q) : tCB r t σ H Q := q
theorem r_bm {T : String} {r : V → List V → Hp → VK → Prop} {t : TA} (q : ta σ H fun x H1 => tyV K T x H1 ∧ t σ H1 fun xs H2 => r x xs H2 Q) : tBM K T r ta t σ H Q := q
theorem r_bm0 {T : String} {r : V → List V → Hp → VK → Prop} (q : ta σ H fun x H1 => tyV K T x H1 ∧ r x [] H1 Q) : tBM0 K T r ta σ H Q := q
theorem r_seq {t u : TS} {nx bk ct : L2.St → Hp → Prop} {rt : VK} (q : t (Ends.mk (u (Ends.mk nx rt bk ct)) rt bk ct) σ H) : tSeq t u (Ends.mk nx rt bk ct) σ H := q
theorem r_brk {nx bk ct : L2.St → Hp → Prop} {rt : VK} (q : bk σ H) : tBreak (Ends.mk nx rt bk ct) σ H := q
theorem r_cont {nx bk ct : L2.St → Hp → Prop} {rt : VK} (q : ct σ H) : tCont (Ends.mk nx rt bk ct) σ H := q
theorem r_next {nx bk ct : L2.St → Hp → Prop} {rt : VK} (q : nx σ H) : tNext (Ends.mk nx rt bk ct) σ H := q
theorem r_drop {nx bk ct : L2.St → Hp → Prop} {rt : VK} (q : te σ H fun _ H1 => nx σ H1) : tDrop te (Ends.mk nx rt bk ct) σ H := q
theorem r_ret {nx bk ct : L2.St → Hp → Prop} {rt : VK} (q : te σ H rt) : tRet te (Ends.mk nx rt bk ct) σ H := q
theorem r_retN {nx bk ct : L2.St → Hp → Prop} {rt : VK} (q : rt .non H) : tRetN (Ends.mk nx rt bk ct) σ H := q
theorem r_ifS {t u : TS} (q : T σ H fun b H1 => if b = true then t D σ H1 else u D σ H1) : tIfS T t u D σ H := q
theorem r_asg {g : TG} {nx bk ct : L2.St → Hp → Prop} {rt : VK} (q : te σ H fun x H1 => g x σ H1 nx) : tAsg te g (Ends.mk nx rt bk ct) σ H := q
theorem r_gName {n : Nat} {P : L2.St → Hp → Prop} (q : P (σ.set n (some v)) H) : gName n v σ H P := q
theorem r_gSub {to ti : TE} {t : TSet} {P : L2.St → Hp → Prop} (q : to σ H fun o H1 => ti σ H1 fun i H2 => t o i v H2 fun H3 => P σ H3) : gSub to ti t v σ H P := q
theorem r_sl {r : V → Option Int → Option Int → Hp → VK → Prop} {tl th : TO} (q : te σ H fun x H1 => tl σ H1 fun l H2 => th σ H2 fun u H3 => r x l u H3 Q) : tSl r te tl th σ H Q := q
theorem r_noPart {P : Option Int → Hp → Prop} (q : P none H) : tNoPart σ H P := q
theorem r_part {P : Option Int → Hp → Prop} (q : te σ H fun x H1 => ∃ i, x = .int i ∧ P (some i) H1) : tPart te σ H P := q
theorem r_isint {P : Int → Prop} (q : P i) : ∃ k, V.int i = .int k ∧ P k := ⟨i, rfl, q⟩
theorem r_gTup {n : Nat} {t : TGs} {a : Addr} {xs : List V} {P : L2.St → Hp → Prop} (h : SqT K H a xs) (e : xs.length = n) (q : t xs σ H P) : gTup K n t (.ref a) σ H P := ⟨a, xs, rfl, h, e, q⟩
theorem r_gCons {t : TG} {u : TGs} {vs : List V} {P : L2.St → Hp → Prop} (q : t v σ H fun σ' H' => u vs σ' H' P) : gCons t u (v :: vs) σ H P := ⟨v, vs, rfl, q⟩
theorem r_gNil {P : L2.St → Hp → Prop} (q : P σ H) : gNil [] σ H P := ⟨rfl, q⟩
theorem ite_t {A B : Prop} (h : A) : if true = true then A else B := by rw [if_pos rfl]; exact h
theorem ite_f {A B : Prop} (h : B) : if false = true then A else B := by rw [if_neg Bool.false_ne_true]; exact h
theorem ite_nt {A B : Prop} (h : B) : if (!true) = true then A else B := ite_f h
theorem ite_nf {A B : Prop} (h : A) : if (!false) = true then A else B := ite_t h
theorem ite_y {p : Prop} {i : Decidable p} {A B : Prop} (hp : p) (h : A) : if decide p = true then A else B := by rw [decide_eq_true hp]; exact ite_t h
theorem ite_n {p : Prop} {i : Decidable p} {A B : Prop} (hp : ¬ p) (h : B) : if decide p = true then A else B := by rw [decide_eq_false hp]; exact ite_f h
theorem ite_ny {p : Prop} {i : Decidable p} {A B : Prop} (hp : p) (h : B) : if (!decide p) = true then A else B := by rw [decide_eq_true hp]; exact ite_f h
theorem ite_nn {p : Prop} {i : Decidable p} {A B : Prop} (hp : ¬ p) (h : A) : if (!decide p) = true then A else B := by rw [decide_eq_false hp]; exact ite_t h
theorem ite_d {p : Prop} {i : Decidable p} {A B : Prop} (h1 : p → A) (h2 : ¬ p → B) : if decide p = true then A else B := by
  by_cases h : p
  · exact ite_y h (h1 h)
  · exact ite_n h (h2 h)
theorem ite_nd {p : Prop} {i : Decidable p} {A B : Prop} (h1 : ¬ p → A) (h2 : p → B) : if (!decide p) = true then A else B := by
  by_cases h : p
  · exact ite_ny h (h2 h)
  · exact ite_nn h (h1 h)
theorem upd2 {H : Hp} {a : Addr} {o u : HO} : upd (upd H a o) a u = upd H a u := upd_upd
theorem upd_id {H : Hp} {a : Addr} {o : HO} (h : H a = some o) : upd H a o = H := by
  funext b
  by_cases hb : b = a
  · rw [hb, upd_same, h]
  · rw [upd_ne hb]
theorem q_t {Q : VK} {H : Hp} {p : Prop} {i : Decidable p} (hp : p) (q : Q (.bl true) H) : Q (.bl (@decide p i)) H := by rw [decide_eq_true hp]; exact q
theorem ite_d' {p : Prop} {i : Decidable p} {A B : Prop} (h1 : p → B) (h2 : ¬ p → A) : if (!decide p) = true then A else B := ite_nd h2 h1
theorem ite_bt {b : Bool} {A B : Prop} (h : b = true) (q : A) : if b = true then A else B := by rw [h]; exact ite_t q
theorem ite_bf {b : Bool} {A B : Prop} (h : b = false) (q : B) : if b = true then A else B := by rw [h]; exact ite_f q
theorem q_bl {Q : VK} {H : Hp} {b c : Bool} (h : b = c) (q : Q (.bl b) H) : Q (.bl c) H := h ▸ q
theorem ite_b {b : Bool} {A B : Prop} (h1 : b = true → A) (h2 : b = false → B) : if b = true then A else B := by
  cases b
  · exact ite_f (h2 rfl)
  · exact ite_t (h1 rfl)
/-! items -/
theorem r_ixL {p : Addr} {xs : List V} (h : SqL K H p xs) (ha : atI xs i = some v) (q : Q v H) : rIx K (.ref p) (.int i) H Q := .inl ⟨p, xs, i, v, rfl, rfl, h, ha, q⟩
theorem r_ixT {p : Addr} {xs : List V} (h : SqT K H p xs) (ha : atI xs i = some v) (q : Q v H) : rIx K (.ref p) (.int i) H Q := .inr (.inl ⟨p, xs, i, v, rfl, rfl, h, ha, q⟩)
theorem r_ixS {z : Str} {c : Nat} (h : z.length ≤ sizeLine) (ha : atI z.cps.toList i = some c) (q : Q (.str ⟨#[c]⟩) H) : rIx K (.str z) (.int i) H Q := .inr (.inr ⟨z, i, c, rfl, rfl, h, ha, q⟩)
theorem r_setL {p : Addr} {xs : List V} {n : Nat} {P : Hp → Prop} (h : H p = some (.lst xs)) (e : ixN xs.length i = some n) (q : P (upd H p (.lst (xs.set n v)))) : rSetL (.ref p) (.int i) v H P := ⟨p, xs, i, n, rfl, rfl, h, e, q⟩
theorem r_slL {p : Addr} {xs : List V} {lo hi : Option Int} (h : SqL K H p xs) (q : ∀ a, H a = none → Q (.ref a) (upd H a (.lst (cutV xs lo hi)))) : rSlL K (.ref p) lo hi H Q := ⟨p, xs, rfl, h, q⟩
theorem r_cat {p b : Addr} {xs ys : List V} (h : H p = some (.lst xs)) (h2 : H b = some (.lst ys)) (hl : xs.length + ys.length ≤ sizeLine) (q : ∀ a, H a = none → Q (.ref a) (upd H a (.lst (xs ++ ys)))) : rCat (.ref p) (.ref b) H Q := ⟨p, b, xs, ys, rfl, rfl, h, h2, hl, q⟩
theorem r_app {p : Addr} {xs : List V} (h : H p = some (.lst xs)) (hl : xs.length < sizeLine) (q : Q .non (upd H p (.lst (xs ++ [v])))) : rAppend (.ref p) [v] H Q := ⟨p, xs, v, rfl, rfl, h, hl, q⟩
theorem r_tyl {p : Addr} {xs : List V} {P : Prop} (h : H p = some (.lst xs)) (q : P) : tyV K "list" (.ref p) H ∧ P := ⟨Or.inl ⟨rfl, _, Or.inl (Or.inl h)⟩, q⟩
theorem r_isB {a b : Bool} (q : Q (.bl (decide (a = b))) H) : rIsB (.bl a) (.bl b) H Q := ⟨a, b, rfl, rfl, q⟩
theorem r_notB {a b : Bool} (q : Q (.bl (!decide (a = b))) H) : rNotB (.bl a) (.bl b) H Q := ⟨a, b, rfl, rfl, q⟩
theorem r_rep {p : Addr} {xs : List V} (h : H p = some (.lst xs)) (h0 : 0 ≤ i) (h1 : i ≤ 100000) (hl : xs.length * i.toNat ≤ sizeLine) (q : ∀ a, H a = none → Q (.ref a) (upd H a (.lst ((List.replicate i.toNat xs).flatten)))) : rRep (.ref p) (.int i) H Q := ⟨p, i, xs, rfl, rfl, h, by omega, by omega, hl, q⟩
/-! data compared -/
theorem r_eqDe {d e : PyData} (hx : Dp K H x d) (hy : Dp K H y e) (sd : SeqAt.shaped d = true) (h : d = e) (q : Q (.bl true) H) : rEqD K x y H Q := ⟨d, e, hx, hy, sd, h ▸ sd, by rw [← h, SeqAt.eqv_refl _ (SeqAt.canLay_of_shaped sd)]; exact q⟩
theorem r_neDe {d e : PyData} (hx : Dp K H x d) (hy : Dp K H y e) (sd : SeqAt.shaped d = true) (h : d = e) (q : Q (.bl false) H) : rNeD K x y H Q := ⟨d, e, hx, hy, sd, h ▸ sd, by rw [← h, SeqAt.eqv_refl _ (SeqAt.canLay_of_shaped sd)]; exact q⟩
/-! built-ins by name -/
def rInt1 : List V → Hp → VK → Prop := fun xs H Q => (∃ i, xs = [.int i] ∧ Q (.int i) H) ∨ ∃ k : Bool, xs = [.bl k] ∧ Q (.int (if k then 1 else 0)) H
def rDivmod : List V → Hp → VK → Prop := fun xs H Q => ∃ i j, xs = [.int i, .int j] ∧ CDiv i j ∧ ∀ p, H p = none → Q (.ref p) (upd H p (.tup [.int (i / j), .int (i % j)]))
def rMin2 : List V → Hp → VK → Prop := fun xs H Q => ∃ i j : Int, xs = [.int i, .int j] ∧ Q (.int (if j < i then j else i)) H
def rMax2 : List V → Hp → VK → Prop := fun xs H Q => ∃ i j : Int, xs = [.int i, .int j] ∧ Q (.int (if j > i then j else i)) H
def rAddS : R2 := fun x y H Q => ∃ i j, x = .str i ∧ y = .str j ∧ i.length + j.length ≤ sizeLine ∧ Q (.str (i ++ j)) H
def rIsN : R2 := fun x y H Q => y = .non ∧ Q (.bl (decide (x = .non))) H
def rNotN : R2 := fun x y H Q => y = .non ∧ Q (.bl (!decide (x = .non))) H
def tTru (K : PySem.W.Frag) (ta : TE) : TT := fun σ H Q => ta σ H fun x H' => ∃ k, TruV K x H' k ∧ Q k H'
theorem r_min2 (q : Q (.int (if j < i then j else i)) H) : rMin2 [.int i, .int j] H Q := ⟨i, j, rfl, q⟩
theorem r_max2 (q : Q (.int (if j > i then j else i)) H) : rMax2 [.int i, .int j] H Q := ⟨i, j, rfl, q⟩
theorem r_lenL {p : Addr} {xs : List V} (h : SqL K H p xs) (q : Q (.int (xs.length : Nat)) H) : rLen K [.ref p] H Q := ⟨_, _, rfl, .inl ⟨_, h, rfl⟩, q⟩
theorem r_lenT {p : Addr} {xs : List V} (h : SqT K H p xs) (q : Q (.int (xs.length : Nat)) H) : rLen K [.ref p] H Q := ⟨_, _, rfl, .inr ⟨_, h, rfl⟩, q⟩
theorem r_lenS {z : Str} (h : z.length ≤ sizeLine) (q : Q (.int (z.length : Nat)) H) : rLen K [.str z] H Q := ⟨_, _, rfl, ⟨h, rfl⟩, q⟩
theorem r_int1i (q : Q (.int i) H) : rInt1 [.int i] H Q := .inl ⟨_, rfl, q⟩
theorem r_int1b {b : Bool} (q : Q (.int (if b then 1 else 0)) H) : rInt1 [.bl b] H Q := .inr ⟨_, rfl, q⟩
theorem r_divmod (c : CDiv i j) (q : ∀ p, H p = none → Q (.ref p) (upd H p (.tup [.int (i / j), .int (i % j)]))) : rDivmod [.int i, .int j] H Q := ⟨i, j, rfl, c, q⟩
theorem r_isi {a b : String} {c : Bool} (ty : TyX K H x (.type a)) (h : kitB a b = some c) (q : Q (.bl c) H) : rIsi K [x, .ty b] H Q := ⟨x, _, _, _, c, rfl, .ty b, ty, kit_ty h, q⟩
theorem r_isN (q : Q (.bl (decide (x = .non))) H) : rIsN x .non H Q := ⟨rfl, q⟩
theorem r_notN (q : Q (.bl (!decide (x = .non))) H) : rNotN x .non H Q := ⟨rfl, q⟩
theorem r_tru {b : Bool} (h : te σ H fun x H1 => ∃ k, TruV K x H1 k ∧ B k H1) : tTru K te σ H B := h
end
theorem pe_pow2 {X : Cx} {a b r : Int} {j j' p p' pos} (h : a ^ b.toNat = r) (hc : CPow a b) : PE X (.BinOp (.Constant (.int a) j p) .Pow (.Constant (.int b) j' p') pos) (tC (.int r)) :=
  ⟨fun pins s σ H Q I hq => (pe_op op_pow pe_int pe_int).run pins s σ H Q I ⟨a, b, rfl, rfl, hc, (show Q (.int (a ^ b.toNat)) H from by rw [h]; exact hq)⟩⟩
/-! ### loops -/
section
variable {K : PySem.W.Frag} {σ : L2.St} {H : Hp} {D : Ends} {g : TG} {tb : TS} {ta : TA} {te : TE} {wi : TI} {R : It → Hp → Prop}
def ForW (J : It) (g : TG) (tb : TS) (D : Ends) (σ : L2.St) (H1 : Hp) : Prop := ∃ W : Nat → Nat → L2.St → Hp → Prop, (∃ m, W 0 m σ H1) ∧ ∀ i m σ H, W i m σ H →
  (J.stop i H ∧ D.nx σ H) ∨ (J.go i H ∧ ∃ N : L2.St → Hp → Prop, (∀ σ' H', N σ' H' → ∃ m', m' < m ∧ W (i + 1) m' σ' H') ∧ ∀ x H', J.yld i H x H' → g x σ H' fun σ2 H2 => tb { D with nx := N, ct := N, bk := D.nx } σ2 H2)
theorem r_for (q : wi σ H fun J H1 => ForW J g tb D σ H1) : tFor wi g tb D σ H := q
section
variable {nx bk ct : L2.St → Hp → Prop} {rt : VK}
/-- over a list that stands; what follows a turn is a letter -/
theorem r_loopL {p : Addr} {xs : List V} (Pv : Nat → L2.St → Hp → Prop) (hx : SqL K H p xs) (h0 : Pv 0 σ H) (hl : ∀ i σ' H', Pv i σ' H' → SqL K H' p xs)
    (hs : ∀ (i : Nat) (x : V) (σ' : L2.St) (H' : Hp) (N : L2.St → Hp → Prop), xs[i]? = some x → Pv i σ' H' → (∀ σ2 H2, Pv (i + 1) σ2 H2 → N σ2 H2) → g x σ' H' fun σ2 H2 => tb (Ends.mk N rt nx N) σ2 H2)
    (hd : ∀ σ' H', Pv xs.length σ' H' → nx σ' H') : ∃ a, V.ref p = .ref a ∧ (∃ xs, SqL K H a xs) ∧ ForW (Itl K a) g tb (Ends.mk nx rt bk ct) σ H :=
  ⟨p, rfl, ⟨xs, hx⟩, for_list (D := Ends.mk nx rt bk ct) Pv h0 (fun i σ' H' _ p => hl i σ' H' p) (fun i x σ' H' hi p => hs i x σ' H' _ hi p fun _ _ z => z) hd⟩
theorem r_loopT {p : Addr} {xs : List V} (Pv : Nat → L2.St → Hp → Prop) (hx : SqT K H p xs) (h0 : Pv 0 σ H) (hl : ∀ i σ' H', Pv i σ' H' → SqT K H' p xs)
    (hs : ∀ (i : Nat) (x : V) (σ' : L2.St) (H' : Hp) (N : L2.St → Hp → Prop), xs[i]? = some x → Pv i σ' H' → (∀ σ2 H2, Pv (i + 1) σ2 H2 → N σ2 H2) → g x σ' H' fun σ2 H2 => tb (Ends.mk N rt nx N) σ2 H2)
    (hd : ∀ σ' H', Pv xs.length σ' H' → nx σ' H') : ∃ a, V.ref p = .ref a ∧ (∃ xs, SqT K H a xs) ∧ ForW (Itt K a) g tb (Ends.mk nx rt bk ct) σ H :=
  ⟨p, rfl, ⟨xs, hx⟩, for_tup (D := Ends.mk nx rt bk ct) Pv h0 (fun i σ' H' _ p => hl i σ' H' p) (fun i x σ' H' hi p => hs i x σ' H' _ hi p fun _ _ z => z) hd⟩
theorem r_loopR1 {j : Int} (Pv : Nat → L2.St → Hp → Prop) (b : -1000000000 ≤ j ∧ j ≤ 1000000000) (h0 : Pv 0 σ H)
    (hs : ∀ (i : Nat) (σ' : L2.St) (H' : Hp) (N : L2.St → Hp → Prop), i < j.toNat → Pv i σ' H' → (∀ σ2 H2, Pv (i + 1) σ2 H2 → N σ2 H2) → g (.int (i : Int)) σ' H' fun σ2 H2 => tb (Ends.mk N rt nx N) σ2 H2)
    (hd : ∀ σ' H', Pv j.toNat σ' H' → nx σ' H') : ∃ k : Int, [V.int j] = [.int k] ∧ -(2 ^ 62) ≤ k ∧ k < 2 ^ 62 ∧ ForW (Itr 0 k.toNat) g tb (Ends.mk nx rt bk ct) σ H :=
  ⟨j, rfl, by omega, by omega, for_range (D := Ends.mk nx rt bk ct) Pv h0 (fun i σ' H' hi p => by
    have e : (0 : Int) + (i : Int) = (i : Int) := Int.zero_add _
    rw [e]
    exact hs i σ' H' _ hi p fun _ _ z => z) hd⟩
theorem r_loopR2 {a j : Int} (Pv : Nat → L2.St → Hp → Prop) (b : -1000000000000000 ≤ a ∧ a ≤ 1000000000000000 ∧ -1000000000000000 ≤ j ∧ j ≤ 1000000000000000) (h0 : Pv 0 σ H)
    (hs : ∀ (i : Nat) (σ' : L2.St) (H' : Hp) (N : L2.St → Hp → Prop), i < (j - a).toNat → Pv i σ' H' → (∀ σ2 H2, Pv (i + 1) σ2 H2 → N σ2 H2) → g (.int (a + (i : Int))) σ' H' fun σ2 H2 => tb (Ends.mk N rt nx N) σ2 H2)
    (hd : ∀ σ' H', Pv (j - a).toNat σ' H' → nx σ' H') : ∃ k l : Int, [V.int a, V.int j] = [.int k, .int l] ∧ (-(2 ^ 62) ≤ k ∧ k < 2 ^ 62 ∧ -(2 ^ 62) ≤ l ∧ l < 2 ^ 62) ∧ ForW (Itr k (l - k).toNat) g tb (Ends.mk nx rt bk ct) σ H :=
  ⟨a, j, rfl, ⟨by omega, by omega, by omega, by omega⟩, for_range (D := Ends.mk nx rt bk ct) Pv h0 (fun i σ' H' hi p => hs i σ' H' _ hi p fun _ _ z => z) hd⟩
end
theorem r_iList (q : te σ H fun x H1 => ∃ a, x = .ref a ∧ (∃ xs, SqL K H1 a xs) ∧ R (Itl K a) H1) : iList K te σ H R := q
theorem r_iTup (q : te σ H fun x H1 => ∃ a, x = .ref a ∧ (∃ xs, SqT K H1 a xs) ∧ R (Itt K a) H1) : iTup K te σ H R := q
theorem r_iRng1 (q : ta σ H fun vs H1 => ∃ j : Int, vs = [.int j] ∧ -(2 ^ 62) ≤ j ∧ j < 2 ^ 62 ∧ R (Itr 0 j.toNat) H1) : iRng1 ta σ H R := q
theorem r_iRng2 (q : ta σ H fun vs H1 => ∃ i j : Int, vs = [.int i, .int j] ∧ (-(2 ^ 62) ≤ i ∧ i < 2 ^ 62 ∧ -(2 ^ 62) ≤ j ∧ j < 2 ^ 62) ∧ R (Itr i (j - i).toNat) H1) : iRng2 ta σ H R := q
end
/-- behind a statement a word, from which the rest is shown once -/
theorem r_cut {t u : TS} {σ : L2.St} {H : Hp} {nx bk ct : L2.St → Hp → Prop} {rt : VK} (M : L2.St → Hp → Prop) (h : t (Ends.mk M rt bk ct) σ H) (k : ∀ σ' H', M σ' H' → u (Ends.mk nx rt bk ct) σ' H') : Evl.tCut t u (Ends.mk nx rt bk ct) σ H := ⟨M, h, k⟩
/-! ### ranges by a step -/
theorem rg_up {a b c : Int} (h1 : 1 ≤ c) (h2 : c ≤ 1000000) (ha : -1000000000 ≤ a) (ha' : a ≤ 1000000000) (hb : -1000000000 ≤ b) (hb' : b ≤ 1000000000) : RgC a b c (if a < b then ((b - a - 1) / c + 1).toNat else 0) := by
  have hc : c > 0 := by omega
  have e : Builtin.Range.rangeSize a b c = if a < b then (b - a - 1) / c + 1 else 0 := by
    unfold Builtin.Range.rangeSize
    rw [if_pos hc]
  by_cases hab : a < b
  · have q0 : 0 ≤ (b - a - 1) / c := Int.ediv_nonneg (by omega) (by omega)
    have q1 : (b - a - 1) / c ≤ b - a - 1 := Int.ediv_le_self _ (by omega)
    have q2 : (b - a - 1) / c * c ≤ b - a - 1 := Int.ediv_mul_le _ (by omega)
    rw [if_pos hab] at e ⊢
    refine ⟨by omega, by omega, ?_, ?_⟩
    · unfold Builtin.Range.small
      rw [e]
      have q3 : ((b - a - 1) / c + 1) * c = (b - a - 1) / c * c + c := by rw [Int.add_mul, Int.one_mul]
      have q4 : ((b - a - 1) / c + 1 - 1) * c = (b - a - 1) / c * c := by rw [Int.add_sub_cancel]
      have q5 : 0 ≤ (b - a - 1) / c * c := Int.mul_nonneg q0 (by omega)
      simp only [Builtin.Range.rangeFitsLong, Bool.and_eq_true, Bool.or_eq_true, decide_eq_true_eq, beq_iff_eq, hc, if_true]
      first | omega | (simp only [q3, q4]; omega) | (split <;> omega)
    · rw [e]; omega
  · rw [if_neg hab] at e ⊢
    refine ⟨by omega, by omega, ?_, ?_⟩
    · unfold Builtin.Range.small
      rw [e]
      simp only [Builtin.Range.rangeFitsLong, Bool.and_eq_true, Bool.or_eq_true, decide_eq_true_eq, beq_iff_eq, hc, if_true]
      first | omega | (split <;> omega) | simp <;> omega
    · rw [e]; rfl
/-! ### comprehensions whose elements leave the heap -/
section
variable {K : PySem.W.Frag} {σ : L2.St} {H : Hp} {Q : VK} {g : TG} {tt : TT} {te : TE} {wi : TI} {ws : List Nat}
def LcW (J : It) (g : TG) (tt : TT) (te : TE) (vs : List Nat) (σ : L2.St) (H1 : Hp) (Q : VK) : Prop := ∀ D, H1 D = none → ∃ W : Nat → Nat → Hp → Prop, (∃ m, W 0 m (upd H1 D (.lst []))) ∧ ∀ i m H, W i m H →
  (J.stop i H ∧ Q (.ref D) H) ∨ (J.go i H ∧ ∃ Nx : Hp → Prop, (∀ H', Nx H' → ∃ m', m' < m ∧ W (i + 1) m' H') ∧ ∀ x H', J.yld i H x H' → g x (wipe σ vs) H' fun σ2 H2 => wipe σ2 vs = wipe σ vs ∧ tt σ2 H2 fun b H3 =>
    if b = true then te σ2 H3 fun y H4 => ∃ acc, H4 D = some (.lst acc) ∧ acc.length < sizeLine ∧ Nx (upd H4 D (.lst (acc ++ [y]))) else Nx H3)
theorem r_lc (q : wi σ H fun J H1 => LcW J g tt te ws σ H1 Q) : tLc wi g tt te ws σ H Q := q
theorem map_step {xs : List V} {f : V → V} {i : Nat} {x : V} (h : xs[i]? = some x) : (xs.take i).map f ++ [f x] = (xs.take (i + 1)).map f := by
  have hl : i < xs.length := (List.getElem?_eq_some_iff.mp h).1
  have e : xs.take (i + 1) = xs.take i ++ [x] := by
    rw [List.take_add_one, h]; rfl
  rw [e, List.map_append]; rfl
/-- over a list, no test -/
theorem r_lcP {j : Nat} {p : Addr} {xs : List V} (f : V → V) (hx : SqL K H p xs) (hz : xs.length ≤ 100000) (hw : ∀ x, wipe ((wipe σ ws).set j (some x)) ws = wipe σ ws)
    (he : ∀ (x : V) (D : Addr) (acc : List V) (Q' : VK), x ∈ xs → H D = none → Q' (f x) (upd H D (.lst acc)) → te ((wipe σ ws).set j (some x)) (upd H D (.lst acc)) Q') (q : ∀ D, H D = none → Q (.ref D) (upd H D (.lst (xs.map f)))) :
    ∃ a, V.ref p = .ref a ∧ (∃ xs, SqL K H a xs) ∧ LcW (Itl K a) (gName j) tYes te ws σ H Q := by
  refine ⟨p, rfl, ⟨xs, hx⟩, fun D hD => lc_list (K := K) (a := p) (xs := xs) (fun i H' => H' = upd H D (.lst ((xs.take i).map f))) (by simp) (fun i H' _ e => ?_) (fun i x H' hi e => ?_) (fun H' e => ?_)⟩
  · rw [e]; exact Same.seq (Same.new (Same.refl H) hD) hx
  · subst e
    refine ⟨hw x, ?_⟩
    show te _ _ _
    refine he x D _ _ (List.mem_of_getElem? hi) hD ⟨_, upd_same, ?_, ?_⟩
    · rw [List.length_map, List.length_take]
      have h2 : (100000 : Nat) < sizeLine := by rw [sizeLine_eq]; decide
      omega
    · rw [upd2, map_step hi]
  · subst e
    rw [List.take_length]
    exact q D hD
theorem r_lcPT {j : Nat} {p : Addr} {xs : List V} (f : V → V) (hx : SqT K H p xs) (hz : xs.length ≤ 100000) (hw : ∀ x, wipe ((wipe σ ws).set j (some x)) ws = wipe σ ws)
    (he : ∀ (x : V) (D : Addr) (acc : List V) (Q' : VK), x ∈ xs → H D = none → Q' (f x) (upd H D (.lst acc)) → te ((wipe σ ws).set j (some x)) (upd H D (.lst acc)) Q') (q : ∀ D, H D = none → Q (.ref D) (upd H D (.lst (xs.map f)))) :
    ∃ a, V.ref p = .ref a ∧ (∃ xs, SqT K H a xs) ∧ LcW (Itt K a) (gName j) tYes te ws σ H Q := by
  refine ⟨p, rfl, ⟨xs, hx⟩, fun D hD => lc_tup (K := K) (a := p) (xs := xs) (fun i H' => H' = upd H D (.lst ((xs.take i).map f))) (by simp) (fun i H' _ e => ?_) (fun i x H' hi e => ?_) (fun H' e => ?_)⟩
  · rw [e]
    rcases hx with (h | ⟨o, h⟩) | h
    · exact .inl (.inl (Same.new (Same.refl H) hD _ _ h))
    · exact .inl (.inr ⟨o, Same.new (Same.refl H) hD _ _ h⟩)
    · exact .inr h
  · subst e
    refine ⟨hw x, ?_⟩
    show te _ _ _
    refine he x D _ _ (List.mem_of_getElem? hi) hD ⟨_, upd_same, ?_, ?_⟩
    · rw [List.length_map, List.length_take]
      have h2 : (100000 : Nat) < sizeLine := by rw [sizeLine_eq]; decide
      omega
    · rw [upd2, map_step hi]
  · subst e
    rw [List.take_length]
    exact q D hD
theorem r_all {p : Addr} {bs : List Bool} (h : SqL K H p (bs.map V.bl)) (q : Q (.bl (bs.all id)) H) : rAll K [.ref p] H Q := ⟨p, bs, rfl, h, q⟩
theorem r_sum {p : Addr} {ns : List Int} (h : SqL K H p (ns.map V.int)) (q : Q (.int ns.sum) H) : rSum K [.ref p] H Q := ⟨p, ns, rfl, h, q⟩
theorem r_any {p : Addr} {bs : List Bool} (h : SqL K H p (bs.map V.bl)) (q : Q (.bl (bs.any id)) H) : rAny K [.ref p] H Q := ⟨p, bs, rfl, h, q⟩
end
/-! ### while -/
section
variable {σ : L2.St} {H : Hp} {c : TT} {tb : TS} {nx bk ct : L2.St → Hp → Prop} {rt : VK}
/-- what is wanted behind a while's test -/
def WhB (W : Nat → L2.St → Hp → Prop) (m : Nat) (tb : TS) (nx : L2.St → Hp → Prop) (rt : VK) (b : Bool) (σ : L2.St) (H : Hp) : Prop :=
  if b = true then ∃ N : L2.St → Hp → Prop, (∀ σ' H', N σ' H' → ∃ m', m' < m ∧ W m' σ' H') ∧ tb (Ends.mk N rt nx N) σ H else nx σ H
theorem whB {W : Nat → L2.St → Hp → Prop} {m : Nat} {b : Bool} (h1 : b = true → ∀ N : L2.St → Hp → Prop, (∀ m' σ2 H2, m' < m → W m' σ2 H2 → N σ2 H2) → tb (Ends.mk N rt nx N) σ H) (h2 : b = false → nx σ H) : WhB W m tb nx rt b σ H := by
  cases b with
  | true => exact ite_t ⟨_, fun _ _ z => z, h1 rfl _ fun m' σ2 H2 a b => ⟨m', a, b⟩⟩
  | false => exact ite_f (h2 rfl)
theorem r_while (W : Nat → L2.St → Hp → Prop) (m0 : Nat) (h0 : W m0 σ H)
    (hs : ∀ (m : Nat) (σ' : L2.St) (H' : Hp), W m σ' H' → c σ' H' fun b H1 => WhB W m tb nx rt b σ' H1) : tWhile c tb (Ends.mk nx rt bk ct) σ H := ⟨W, ⟨m0, h0⟩, hs⟩
end
theorem r_iRng3 {σ : L2.St} {H : Hp} {ta : TA} {R : It → Hp → Prop} (q : ta σ H fun vs H1 => ∃ (i j c : Int) (n : Nat), vs = [.int i, .int j, .int c] ∧ RgC i j c n ∧ R (Itc i c n) H1) : iRng3 ta σ H R := q
theorem r_loopR3 {σ : L2.St} {H : Hp} {g : TG} {tb : TS} {nx bk ct : L2.St → Hp → Prop} {rt : VK} {a b c : Int} (Pv : Nat → L2.St → Hp → Prop) (h1 : 1 ≤ c ∧ c ≤ 1000000) (ha : -1000000000 ≤ a ∧ a ≤ 1000000000) (hb : -1000000000 ≤ b ∧ b ≤ 1000000000) (h0 : Pv 0 σ H)
    (hs : ∀ (i : Nat) (σ' : L2.St) (H' : Hp) (N : L2.St → Hp → Prop), i < (if a < b then ((b - a - 1) / c + 1).toNat else 0) → Pv i σ' H' → (∀ σ2 H2, Pv (i + 1) σ2 H2 → N σ2 H2) → g (.int (a + (i : Nat) * c)) σ' H' fun σ2 H2 => tb (Ends.mk N rt nx N) σ2 H2)
    (hd : ∀ σ' H', Pv (if a < b then ((b - a - 1) / c + 1).toNat else 0) σ' H' → nx σ' H') :
    ∃ (i j k : Int) (n : Nat), [V.int a, V.int b, V.int c] = [.int i, .int j, .int k] ∧ RgC i j k n ∧ ForW (Itc i k n) g tb (Ends.mk nx rt bk ct) σ H :=
  ⟨a, b, c, _, rfl, rg_up h1.1 h1.2 ha.1 ha.2 hb.1 hb.2, for_rangeC (D := Ends.mk nx rt bk ct) Pv h0 (fun i σ' H' hi p => hs i σ' H' _ hi p fun _ _ z => z) hd⟩
/-! ### tests that leave the heap: what they tell as one proposition -/
def Pu (T : TT) (σ : L2.St) (H : Hp) (p : Prop) : Prop := ∃ b : Bool, (b = true ↔ p) ∧ ∀ B : Bool → Hp → Prop, B b H → T σ H B
section
variable {σ : L2.St} {H : Hp} {T U : TT} {p q : Prop} {D : Ends} {t u : TS} {ta tb : TE} {Q : VK}
theorem pu_and (h1 : Pu T σ H p) (h2 : p → Pu U σ H q) : Pu (tAnd T U) σ H (p ∧ q) := by
  obtain ⟨b, e, h1⟩ := h1
  cases b with
  | false => exact ⟨false, ⟨fun z => (nomatch z), fun z => e.mpr z.1⟩, fun B hB => h1 _ (ite_f hB)⟩
  | true =>
    obtain ⟨c, e2, h2⟩ := h2 (e.mp rfl)
    exact ⟨c, ⟨fun z => ⟨e.mp rfl, e2.mp z⟩, fun z => e2.mpr z.2⟩, fun B hB => h1 _ (ite_t (h2 _ hB))⟩
theorem pu_or (h1 : Pu T σ H p) (h2 : ¬ p → Pu U σ H q) : Pu (tOr T U) σ H (p ∨ q) := by
  obtain ⟨b, e, h1⟩ := h1
  cases b with
  | true => exact ⟨true, ⟨fun _ => .inl (e.mp rfl), fun _ => rfl⟩, fun B hB => h1 _ (ite_t hB)⟩
  | false =>
    have hn : ¬ p := fun z => nomatch e.mpr z
    obtain ⟨c, e2, h2⟩ := h2 hn
    exact ⟨c, ⟨fun z => .inr (e2.mp z), fun z => z.elim (fun y => absurd y hn) e2.mpr⟩, fun B hB => h1 _ (ite_f (h2 _ hB))⟩
theorem pu_not (h1 : Pu T σ H p) : Pu (tNot T) σ H (¬ p) := by
  obtain ⟨b, e, h1⟩ := h1
  refine ⟨!b, ?_, fun B hB => h1 _ hB⟩
  cases b
  · exact ⟨fun _ z => (nomatch e.mpr z), fun _ => rfl⟩
  · exact ⟨fun z => (nomatch z), fun z => absurd (e.mp rfl) z⟩
theorem dec_n {i : Decidable p} : (!(@decide p i)) = true ↔ ¬ p := by
  cases i with
  | isTrue y => exact ⟨fun z => (nomatch z), fun n => absurd y n⟩
  | isFalse y => exact ⟨fun _ => y, fun _ => rfl⟩
theorem pu_x (h : False) : Pu T σ H True := h.elim
theorem pu_d {i : Decidable p} (h : ∀ B : Bool → Hp → Prop, B (@decide p i) H → T σ H B) : Pu T σ H p := ⟨@decide p i, ⟨of_decide_eq_true, decide_eq_true⟩, h⟩
theorem pu_n {i : Decidable p} (h : ∀ B : Bool → Hp → Prop, B (!(@decide p i)) H → T σ H B) : Pu T σ H (¬ p) := ⟨!(@decide p i), dec_n, h⟩
theorem pu_b {b : Bool} (h : ∀ B : Bool → Hp → Prop, B b H → T σ H B) : Pu T σ H (b = true) := ⟨b, Iff.rfl, h⟩
theorem pu_nb {b : Bool} (h : ∀ B : Bool → Hp → Prop, B (!b) H → T σ H B) : Pu T σ H (b = false) := ⟨!b, by cases b <;> decide, h⟩
theorem r_ifP (hT : Pu T σ H p) (h1 : p → t D σ H) (h2 : ¬ p → u D σ H) : tIfS T t u D σ H := by
  obtain ⟨b, e, h⟩ := hT
  cases b with
  | true => exact h _ (ite_t (h1 (e.mp rfl)))
  | false => exact h _ (ite_f (h2 fun z => nomatch e.mpr z))
theorem r_tifP (hT : Pu T σ H p) (h1 : p → ta σ H Q) (h2 : ¬ p → tb σ H Q) : tIf T ta tb σ H Q := by
  obtain ⟨b, e, h⟩ := hT
  cases b with
  | true => exact h _ (ite_t (h1 (e.mp rfl)))
  | false => exact h _ (ite_f (h2 fun z => nomatch e.mpr z))
theorem r_ifPy (hT : Pu T σ H p) (hp : p) (h1 : t D σ H) : tIfS T t u D σ H := r_ifP hT (fun _ => h1) fun n => absurd hp n
theorem r_ifPn (hT : Pu T σ H p) (hp : ¬ p) (h1 : u D σ H) : tIfS T t u D σ H := r_ifP hT (fun n => absurd n hp) fun _ => h1
theorem r_tifPy (hT : Pu T σ H p) (hp : p) (h1 : ta σ H Q) : tIf T ta tb σ H Q := r_tifP hT (fun _ => h1) fun n => absurd hp n
theorem r_tifPn (hT : Pu T σ H p) (hp : ¬ p) (h1 : tb σ H Q) : tIf T ta tb σ H Q := r_tifP hT (fun n => absurd n hp) fun _ => h1
end
end Vs

/-! ## own exceptions: what is raised, caught, asked -/
namespace Vs
open PySem PySem.Spec PyProof.Rows L2
/-- isinstance(e, c) of the exception that a suite holds -/
def rIsX (K : PySem.W.Frag) (cls : Value) (d : Option Addr) (a : Addr) : List V → Hp → VK → Prop := fun xs H Q =>
  ∃ (c : V) (cv : Value) (D : Addr) (b : Bool), xs = [.ref a, c] ∧ cls = .ref D ∧ d = none ∧ ExcC K D ∧ ClsV c cv ∧ PySem.W.kitOne K (.ref D) cv = some b ∧ Q (.bl b) H
def rIsXT (K : PySem.W.Frag) (cls : Value) (d : Option Addr) (a : Addr) : List V → Hp → VK → Prop := fun xs H Q =>
  ∃ (tp : Addr) (cs : List V) (us : List Value) (D : Addr) (b : Bool), xs = [.ref a, .ref tp] ∧ H tp = some (.tup cs) ∧ cls = .ref D ∧ d = none ∧ ExcC K D ∧ Paired ClsV cs us ∧ PySem.W.kitAny K (.ref D) us = some b ∧ Q (.bl b) H
theorem call_isX {X : Cx} {a : Addr} {oe : Obj} {cls : Value} {d : Option Addr} {pn : List (Addr × Obj)} (hz : Zc cls d oe) (hf : ∃ vs, oe.data = .fields vs) : CallR (X.suite a ((a, oe) :: pn)) (.builtin "isinstance") (rIsX X.K cls d a) := by
  intro pins s σ H xs us Q I r h
  obtain ⟨c, cv, D, b, e1, rfl, rfl, C, hc, e, q⟩ := h
  exact call_isE C hz hf pins s σ H xs us Q I r ⟨c, cv, b, e1, fun u ru => hc.eq ru, e, q⟩
theorem call_isXT {X : Cx} {a : Addr} {oe : Obj} {cls : Value} {d : Option Addr} {pn : List (Addr × Obj)} (hz : Zc cls d oe) (hf : ∃ vs, oe.data = .fields vs) : CallR (X.suite a ((a, oe) :: pn)) (.builtin "isinstance") (rIsXT X.K cls d a) := by
  intro pins s σ H xs us Q I r h
  obtain ⟨tp, cs, ws, D, b, rfl, hT, rfl, rfl, C, hc, e, q⟩ := h
  obtain ⟨u1, u2, rfl, r1, r2⟩ := vals2 r
  cases (show u1 = Value.ref a from r1)
  cases (show u2 = Value.ref tp from r2)
  have hget := (I.pin (a, oe) (List.mem_append_left _ List.mem_cons_self)).1
  have J : PySem.W.InstAt s.heap a oe D none := by
    obtain ⟨vs, hv⟩ := hf
    refine ⟨hget, hz.1, ?_, ?_⟩
    · unfold PySem.W.notCls; rw [hv]
    · rw [hz.2]; trivial
  have hO : ObjOk X.prog X.w H s.heap tp (.tup cs) := I.hok tp _ hT
  obtain ⟨_, its, rv, ⟨oc, od, dt, sl⟩, g1, g2, n, g3⟩ := hO
  have e4 : its = ws := ClsV.all hc rv
  subst e4
  dsimp only at g2 g3
  subst g2 g3
  exact PySem.W.kia_tup (PySem.W.handS_kitx_exc C.hg C.hk C.hs C.hd C.ha C.hn C.ht C.hm) I.kIn J g1 e (fun z => nomatch z) fun tk => ⟨.bl b, H, I.tok tk, rfl, q⟩
/-- what such a class must say, as one Bool -/
def excB (K : PySem.W.Frag) (D : Addr) : Bool :=
  decide (PySem.W.findIn K (.ref D) "__getattribute__" = some (some (.builtin "BaseException.__getattribute__"))) &&
  (decide (PySem.W.findIn K (.ref D) "__getattr__" = some none) && (decide (PySem.W.subIn K (.ref D) (.type "BaseException") = some true) &&
  (PySem.W.hasDictIn K D && (decide (PySem.W.findIn K (.ref D) "__class__" = some (some (.builtin "object.__class__"))) &&
  (decide (PySem.W.specialIn K (.builtin "object.__class__") "__get__" = some (some (.builtin "getset_descriptor.__get__"))) &&
  (decide (PySem.W.takesIn K (.builtin "object.__class__") = some true) && decide (PySem.W.mroIn K D (.type "object") = some true)))))))
theorem b2 {a b : Bool} (h : (a && b) = true) : a = true ∧ b = true := Bool.and_eq_true_iff.mp h
theorem excB_ok {K : PySem.W.Frag} {D : Addr} (h : excB K D = true) : ExcC K D := by
  obtain ⟨h1, h⟩ := b2 h
  obtain ⟨h2, h⟩ := b2 h
  obtain ⟨h3, h⟩ := b2 h
  obtain ⟨h4, h⟩ := b2 h
  obtain ⟨h5, h⟩ := b2 h
  obtain ⟨h6, h⟩ := b2 h
  obtain ⟨h7, h8⟩ := b2 h
  exact ⟨of_decide_eq_true h1, of_decide_eq_true h2, of_decide_eq_true h3, h4, of_decide_eq_true h5, of_decide_eq_true h6, of_decide_eq_true h7, of_decide_eq_true h8⟩
/-- the readings -/
def tRaise (E : XK) (C : Addr) : TS := fun _ _ H => E (.ref C) none H
def tTryAs (K : PySem.W.Frag) (c : Value) (i : Nat) (tb : WX → TS) (ts : Addr → Value → Option Addr → TS) (Wout : WX) : TS := fun D σ H => tb (wAs K c i ts Wout D) D σ H
section
variable {K : PySem.W.Frag} {σ : L2.St} {H : Hp} {Q : VK} {D : Ends} {E : XK} {C : Addr}
theorem r_raise (q : E (.ref C) none H) : tRaise E C D σ H := q
theorem r_tryAs {c : Value} {i : Nat} {tb : WX → TS} {ts : Addr → Value → Option Addr → TS} {Wout : WX} (q : tb (wAs K c i ts Wout D) D σ H) : tTryAs K c i tb ts Wout D σ H := q
theorem r_callS {sp : Sp} {W : WX} {t : TA} (q : t σ H fun vs H1 => sp vs H1 Q (WE W σ)) : tCallS sp (WE W) t σ H Q := q
/-- caught -/
theorem r_caught {nx bk ct : L2.St → Hp → Prop} {rt : VK} {cls c : Value} {d : Option Addr} {i : Nat} {ts : Addr → Value → Option Addr → TS} {Wout : WX} (h : PySem.W.exmOne K cls c = some true)
    (q : ∀ a, H a = none → ts a cls d (Ends.mk (fun σ' H' => nx (σ'.set i none) H') rt (fun σ' H' => bk (σ'.set i none) H') (fun σ' H' => ct (σ'.set i none) H')) (σ.set i (some (.ref a))) H) :
    WE (wAs K c i ts Wout (Ends.mk nx rt bk ct)) σ cls d H := ⟨true, h, fun _ => q, fun z => nomatch z⟩
theorem r_isX {a : Addr} {c : V} {cv : Value} {b : Bool} (h : ExcC K C) (hc : ClsV c cv) (e : PySem.W.kitOne K (.ref C) cv = some b) (q : Q (.bl b) H) : rIsX K (.ref C) none a [.ref a, c] H Q := ⟨c, cv, C, b, rfl, rfl, rfl, h, hc, e, q⟩
theorem r_isXT {a tp : Addr} {cs : List V} {us : List Value} {b : Bool} (ht : H tp = some (.tup cs)) (h : ExcC K C) (hc : Paired ClsV cs us) (e : PySem.W.kitAny K (.ref C) us = some b) (q : Q (.bl b) H) : rIsXT K (.ref C) none a [.ref a, .ref tp] H Q := ⟨tp, cs, us, C, b, rfl, ht, rfl, rfl, h, hc, e, q⟩
end
end Vs

/-! ## objects of own classes -/
namespace Vs
open PySem PySem.Spec PyProof.Rows L2
/-- an instance's class, asked by isinstance -/
structure InsT (K : PySem.W.Frag) (C : Addr) : Prop where
  cl : Cls K C
  ha : PySem.W.findIn K (.ref C) "__class__" = some (some (.builtin "object.__class__"))
  hn : PySem.W.specialIn K (.builtin "object.__class__") "__get__" = some (some (.builtin "getset_descriptor.__get__"))
  htk : PySem.W.takesIn K (.builtin "object.__class__") = some true
  hm : PySem.W.mroIn K C (.type "object") = some true
theorem InsT.ty {K : PySem.W.Frag} {H : Hp} {a C dx : Addr} {fs : List (Str × V)} (t : InsT K C) (e : H a = some (.ins C dx fs)) : TyX K H (.ref a) (.ref C) := .base (.ins e t.cl t.ha t.hn t.htk t.hm)
def insB (K : PySem.W.Frag) (C : Addr) : Bool :=
  decide (PySem.W.findIn K (.ref C) "__class__" = some (some (.builtin "object.__class__"))) && (decide (PySem.W.specialIn K (.builtin "object.__class__") "__get__" = some (some (.builtin "getset_descriptor.__get__"))) &&
  (decide (PySem.W.takesIn K (.builtin "object.__class__") = some true) && decide (PySem.W.mroIn K C (.type "object") = some true)))
theorem insB_ok {K : PySem.W.Frag} {C : Addr} (c : Cls K C) (h : insB K C = true) : InsT K C := by
  obtain ⟨h1, h⟩ := b2 h
  obtain ⟨h2, h⟩ := b2 h
  obtain ⟨h3, h4⟩ := b2 h
  exact ⟨c, of_decide_eq_true h1, of_decide_eq_true h2, of_decide_eq_true h3, of_decide_eq_true h4⟩
/-- a method that stands in a class above -/
def methB (K : PySem.W.Frag) (C : Addr) (m : Str) (f : Addr) : Bool := decide (PySem.W.findIn K (.ref C) m = some (some (.ref f))) && (PySem.W.isFn K (.ref f) && PySem.W.keepIn K (.ref f))
theorem methB_ok {K : PySem.W.Frag} {C f : Addr} {m : Str} (h : methB K C m f = true) : Meth K C m f := by
  obtain ⟨h1, h⟩ := b2 h
  obtain ⟨h2, h3⟩ := b2 h
  exact ⟨of_decide_eq_true h1, h2, h3⟩
/-- C() without an own __init__ -/
structure Mk0 (K : PySem.W.Frag) (C : Addr) : Prop where
  makes : PySem.W.makesIn K C = true
  init : PySem.W.findIn K (.ref C) "__init__" = some (some (.builtin "object.__init__"))
  top : PySem.W.mroIn K C (.type "object") = some true
  kp : PySem.W.keepIn K (.ref C) = true
def mk0B (K : PySem.W.Frag) (C : Addr) : Bool := PySem.W.makesIn K C && (decide (PySem.W.findIn K (.ref C) "__init__" = some (some (.builtin "object.__init__"))) && (decide (PySem.W.mroIn K C (.type "object") = some true) && PySem.W.keepIn K (.ref C)))
theorem mk0B_ok {K : PySem.W.Frag} {C : Addr} (h : mk0B K C = true) : Mk0 K C := by
  obtain ⟨h1, h⟩ := b2 h
  obtain ⟨h2, h⟩ := b2 h
  obtain ⟨h3, h4⟩ := b2 h
  exact ⟨h1, of_decide_eq_true h2, of_decide_eq_true h3, h4⟩
/-- C(..) by an __init__ that stands in a class above -/
def mkB (K : PySem.W.Frag) (C f : Addr) : Bool := PySem.W.makesIn K C && (decide (PySem.W.findIn K (.ref C) "__init__" = some (some (.ref f))) && (PySem.W.isFn K (.ref f) && PySem.W.keepIn K (.ref C)))
theorem mkB_ok {K : PySem.W.Frag} {C f : Addr} (h : mkB K C f = true) : Mk K C f := by
  obtain ⟨h1, h⟩ := b2 h
  obtain ⟨h2, h⟩ := b2 h
  obtain ⟨h3, h4⟩ := b2 h
  exact ⟨h1, of_decide_eq_true h2, h3, h4⟩
section
variable {X : Cx} {pins : List (Addr × Obj)} {σ : L2.St} {H : Hp} {s : Shared} {Q : VK} {C : Addr} {x : Str} {p pos : Pos}
theorem run_bare (M : Mk0 X.K C) (I : Inv X pins σ H s) (h : ∀ x dx, H x = none → H dx = none → dx ≠ x → Q (.ref x) (upd (upd H dx (.own x)) x (.ins C dx []))) :
    wpAny (model X.prog X.w) X.A (call (.ref C) []) (EP X pins σ Q) X.xe s := by
  have hq := h (s.heap.objs.size + 1) s.heap.objs.size (I.hok.fresh (Nat.le_succ _)) (I.hok.fresh (Nat.le_refl _)) (Nat.ne_of_lt (Nat.lt_succ_self _))
  have I2 := Inv.made (C := C) I
  obtain ⟨_, _, _, ho, _⟩ := I2.hok _ _ upd_same
  refine wpAny_call (make_map0 I.kIn M.makes M.init (fun self => .of_pure (PySem.W.oi_bind self)) ?_)
  have t2 : PySem.W.Looks (model X.prog X.w) ((s.heap.push PySem.W.emptyDict).push (PySem.W.instObj C s.heap.objs.size)) (isInstance (.ref (s.heap.objs.size + 1)) (.type "object")) true :=
    ((PySem.W.Looks.ld ho).andThen .now).andThen (PySem.W.looks_mroIn I2.kIn M.top)
  refine codeAny_call_builtin PySem.W.oi_plain PySem.W.entry_oi (@PySem.W.check_slot (model X.prog X.w) _ _ _ "object.__init__" "object" "__init__" (.ref (s.heap.objs.size + 1)) [] [] _ PySem.W.oi_kind PySem.W.oi_split t2 (PySem.W.oi_args _) ?_)
  rw [PySem.W.oi_run]
  exact wpAny_pure (And.intro rfl (show EP X pins σ Q (Value.ref (s.heap.objs.size + 1)) _ from ⟨V.ref (s.heap.objs.size + 1), _, I2, rfl, hq⟩))
/-- C(): all stands, a new instance -/
def tMake0 (C : Addr) : TE := fun _ H Q => ∀ x dx, H x = none → H dx = none → dx ≠ x → Q (.ref x) (upd (upd H dx (.own x)) x (.ins C dx []))
theorem pe_make00 (M : Mk0 X.K C) (hg : Gl X x) (hm : X.mg x = some (.ref C)) (hdb : (x == ("__debug__" : Str)) = false := by decide) : PE X (.Call (.Name x p) [] [] pos) (tMake0 C) := by
  refine ⟨fun pins s σ H Q I h => ?_⟩
  refine wpAny_Call_Name_kw (ld_glob I hg hm ?_ hdb)
  exact PySem.W.callWith_K0 I.kIn M.kp (run_bare M I h)
theorem same_made {H H' : Hp} {x dx : Addr} {C : Addr} (hx : H x = none) (hd : H dx = none) (k : Kp x (upd (upd H dx (.own x)) x (.ins C dx [])) H') : Same H H' := by
  intro b o h
  have n1 : b ≠ x := fun z => by rw [z, hx] at h; cases h
  have n2 : b ≠ dx := fun z => by rw [z, hd] at h; cases h
  exact k b o (by rw [upd_ne n1, upd_ne n2]; exact h) n1
theorem r_make0 (q : ∀ x dx H', H x = none → Same H H' → H' x = some (.ins C dx []) → Q (.ref x) H') : tMake0 C σ H Q :=
  fun x dx hx hd _ => q x dx _ hx (same_made hx hd (Kp.refl _ _)) upd_same
/-- C(..), the arguments read -/
theorem r_make {sp : Sp} {E : XK} {t : TA} (q : t σ H fun vs H1 => ∀ x dx, H1 x = none → (H1 dx = none ∧ dx ≠ x) → sp (.ref x :: vs) (upd (upd H1 dx (.own x)) x (.ins C dx [])) (fun v H2 => v = .non ∧ Q (.ref x) H2) E) : tMake C sp [] E t σ H Q := by
  unfold tMake
  simp only [List.append_nil]
  simp only [and_imp] at q
  exact q
/-- C(.., k = v), read -/
theorem r_makeK {n m : Nat} {sp : Sp} {gV : List V → List V → List V} {E : XK} {t tk : TA} (q : t σ H fun vs H1 => tk σ H1 fun zs H2 => vs.length = n ∧ zs.length = m ∧
  ∀ x dx, H2 x = none → (H2 dx = none ∧ dx ≠ x) → sp (gV (.ref x :: vs) zs) (upd (upd H2 dx (.own x)) x (.ins C dx [])) (fun v H3 => v = .non ∧ Q (.ref x) H3) E) : tMakeK C n m sp gV E t tk σ H Q := by
  unfold tMakeK
  simp only [and_imp] at q
  exact q
theorem r_len {n : Nat} {vs : List V} {P : Prop} (h : vs.length = n) (q : P) : vs.length = n ∧ P := ⟨h, q⟩
/-- o.f -/
def rFld (K : PySem.W.Frag) (f : Str) (x : V) (H : Hp) (Q : VK) : Prop := ∃ a C dx fs v, x = .ref a ∧ H a = some (.ins C dx fs) ∧ Cls K C ∧ NoAttr K C f ∧ fs.lookup f = some v ∧ Q v H
theorem r_fld {K : PySem.W.Frag} {ta : TE} {f : Str} (q : ta σ H fun y H1 => rFld K f y H1 Q) : tFld K ta f σ H Q := q
theorem r_fldI {K : PySem.W.Frag} {a dx : Addr} {fs : List (Str × V)} {f : Str} {v : V} (h : H a = some (.ins C dx fs)) (c : Cls K C) (n : NoAttr K C f) (l : fs.lookup f = some v) (q : Q v H) : rFld K f (.ref a) H Q := ⟨a, C, dx, fs, v, rfl, h, c, n, l, q⟩
/-- o.f = e -/
def rSet (K : PySem.W.Frag) (f : Str) (y x : V) (H : Hp) (P : Hp → Prop) : Prop := ∃ a C dx fs, x = .ref a ∧ H a = some (.ins C dx fs) ∧ Cls K C ∧ NoAttr K C f ∧ fs.length < 1000 ∧ P (upd H a (.ins C dx (putF f y fs)))
theorem r_sfld {K : PySem.W.Frag} {ta tv : TE} {f : Str} {D : Ends} (q : tv σ H fun y H1 => ta σ H1 fun z H2 => rSet K f y z H2 fun H3 => D.nx σ H3) : sFld K ta tv f D σ H := q
theorem r_set {K : PySem.W.Frag} {a dx : Addr} {fs gs : List (Str × V)} {f : Str} {y : V} {P : Hp → Prop} (h : H a = some (.ins C dx fs)) (c : Cls K C) (n : NoAttr K C f) (l : fs.length < 1000) (e : putF f y fs = gs) (q : P (upd H a (.ins C dx gs))) : rSet K f y (.ref a) H P := ⟨a, C, dx, fs, rfl, h, c, n, l, e ▸ q⟩
theorem putF_nil {f : Str} {v : V} : putF f v [] = [(f, v)] := rfl
theorem putF_hit {f : Str} {v x : V} {r : List (Str × V)} : putF f v ((f, x) :: r) = (f, v) :: r := if_pos rfl
theorem putF_miss {f g : Str} {v x : V} {r s : List (Str × V)} (n : g ≠ f) (e : putF f v r = s) : putF f v ((g, x) :: r) = (g, x) :: s := (if_neg n).trans (by rw [e])
/-- o.m(..) -/
def rMe (C : Addr) (m : Str) (x : V) (H : Hp) (P : Prop) : Prop := ∃ a dx fs, x = .ref a ∧ H a = some (.ins C dx fs) ∧ fs.lookup m = none ∧ P
theorem r_meth {sp : Sp} {E : XK} {ta : TE} {t : TA} {m : Str} (q : ta σ H fun y H1 => rMe C m y H1 (t σ H1 fun vs H2 => sp (y :: vs) H2 Q E)) : tMeth C m sp [] E ta t σ H Q := by
  unfold tMeth
  simp only [List.append_nil]
  exact q
theorem r_me {a dx : Addr} {fs : List (Str × V)} {m : Str} {P : Prop} (h : H a = some (.ins C dx fs)) (l : fs.lookup m = none) (p : P) : rMe C m (.ref a) H P := ⟨a, dx, fs, rfl, h, l, p⟩
theorem pe_of {e : Expr} {t u : TE} (h : PE X e t) (q : t = u) : PE X e u := q ▸ h
/-- one of several readings -/
def tAlt (t u : TE) : TE := fun σ H Q => t σ H Q ∨ u σ H Q
theorem pe_alt {e : Expr} {t u : TE} (h : PE X e t) (k : PE X e u) : PE X e (tAlt t u) := ⟨fun pins s σ H Q I h1 => h1.elim (h.run pins s σ H Q I) (k.run pins s σ H Q I)⟩
theorem r_altL {t u : TE} (q : t σ H Q) : tAlt t u σ H Q := .inl q
theorem r_altR {t u : TE} (q : u σ H Q) : tAlt t u σ H Q := .inr q
theorem r_non {P : Prop} (q : P) : V.non = .non ∧ P := ⟨rfl, q⟩
/-- isinstance against any class -/
theorem r_isiG {K : PySem.W.Frag} {v c : V} {t u : Value} {b : Bool} (ty : TyX K H v t) (hc : ClsV c u) (h : PySem.W.kitOne K t u = some b) (q : Q (.bl b) H) : rIsi K [v, c] H Q := ⟨v, c, t, u, b, rfl, hc, ty, h, q⟩
/-- C(..) in a try: what leaves goes by the names as they stand -/
theorem run_makeS {CX : CXT} {k : Nat} {fi : Addr} {fd : FuncData} {ps : List Str} {sp : Sp} {E : XK} {args : List Value} {vs : List V} (M : Mk X.K C fi) (F : FnOk X.prog X.w X.K X.mg X.base CX k fi fd ps sp)
    (room : Room (k + 1) X.A) (bnd : Binds X.K fd ps []) (out : PassesAt CX X σ E) (I : Inv X pins σ H s) (rel : Vals vs args)
    (h : ∀ a b, H a = none → (H b = none ∧ b ≠ a) → sp (.ref a :: vs) (upd (upd H b (.own a)) a (.ins C b [])) (fun v H2 => v = .non ∧ Q (.ref a) H2) E) : wpAny (model X.prog X.w) X.A (call (.ref C) args) (EP X pins σ Q) X.xe s := by
  have body := h _ _ (I.hok.fresh (a := s.heap.objs.size + 1) (Nat.le_succ _)) ⟨I.hok.fresh (a := s.heap.objs.size) (Nat.le_refl _), Nat.ne_of_lt (Nat.lt_succ_self _)⟩
  have J := Inv.made (C := C) I
  have rel' : Vals (V.ref (s.heap.objs.size + 1) :: vs) (Value.ref (s.heap.objs.size + 1) :: args) := .cons rfl rel
  have n1 : ((Value.ref (s.heap.objs.size + 1) :: args) ++ []).length = ps.length := by
    rw [List.append_nil, ← rel'.length]
    exact F.len _ _ _ _ body
  have bt := bnd _ (Value.ref (s.heap.objs.size + 1) :: args) J.kIn n1
  rw [List.append_nil] at bt
  have run := F.run _ X.stack _ _ _ _ _ _ E (room.make C args []) (J.env0.make C args []) bt rel' body
  refine wpAny_call (make_map (f := fi) I.kIn M.makes M.init (beq_iff_eq.mp M.fn) (codeAny_mono run ?_))
  intro res st post
  match res, post with
  | .error e, post => exact out pins _ _ e st J post
  | .ok (.ret u), post =>
    obtain ⟨v, H2, I2, ru, ev, q⟩ := J.after post
    subst ev
    exact And.intro ru (show EP X pins σ Q (Value.ref (s.heap.objs.size + 1)) _ from ⟨V.ref (s.heap.objs.size + 1), H2, I2, rfl, q⟩)
  | .ok .next, post => exact post.elim
  | .ok .brk, post => exact post.elim
  | .ok .cont, post => exact post.elim
/-- its reading: as tMake, the names' own way out -/
def tMakeS (C : Addr) (sp : Sp) (E : L2.St → XK) (t : TA) : TE := fun σ H Q => t σ H fun vs H1 => ∀ a b, H1 a = none → (H1 b = none ∧ b ≠ a) →
  sp (.ref a :: vs) (upd (upd H1 b (.own a)) a (.ins C b [])) (fun v H2 => v = .non ∧ Q (.ref a) H2) (E σ)
theorem pe_makeS {CX : CXT} {k : Nat} {fi : Addr} {fd : FuncData} {ps : List Str} {sp : Sp} {E : L2.St → XK} {e : Expr} {es : List Expr} {t : TA} (M : Mk X.K C fi) (F : FnOk X.prog X.w X.K X.mg X.base CX k fi fd ps sp)
    (room : Room (k + 1) X.A) (hg : Gl X x) (hm : X.mg x = some (.ref C)) (bnd : Binds X.K fd ps []) (out : ∀ σ, PassesAt CX X σ (E σ)) (ha : PA X (e :: es) t) (hdb : (x == ("__debug__" : Str)) = false := by decide)
    (he : starEach (e :: es) X.env = (false, eval e X.env) :: starEach es X.env := by rfl) (hpl : (backTo pos (starEach es X.env)).any (·.1) = false := by rfl) :
    PE X (.Call (.Name x p) (e :: es) [] pos) (tMakeS C sp E t) := by
  constructor
  intro pins s σ H Q I h
  refine wpAny_Call_Name_kw (ld_glob I hg hm ?_ hdb)
  have args := ha.run pos pins s σ H _ I h
  refine PySem.W.callWith_K (h₀ := X.base) I.ok.mod.kin M.kp (thn args ?_) he hpl
  rintro us s1 ⟨vs, H1, I1, r, q⟩
  exact ⟨I1.kIn, run_makeS M F room bnd (out σ) I1 r q⟩
theorem r_makeS {sp : Sp} {W : WX} {t : TA} (q : t σ H fun vs H1 => ∀ a b, H1 a = none → (H1 b = none ∧ b ≠ a) → sp (.ref a :: vs) (upd (upd H1 b (.own a)) a (.ins C b [])) (fun v H2 => v = .non ∧ Q (.ref a) H2) (WE W σ)) : tMakeS C sp (WE W) t σ H Q := q
/-- a comprehension that keeps none -/
theorem r_lcN {K : PySem.W.Frag} {tt : TT} {te : TE} {ws : List Nat} {j : Nat} {p : Addr} {xs : List V} (hx : SqL K H p xs) (hw : ∀ x, wipe ((wipe σ ws).set j (some x)) ws = wipe σ ws)
    (he : ∀ (x : V) (H1 : Hp) (B : Bool → Hp → Prop), x ∈ xs → Same H H1 → (∀ H2, Same H1 H2 → B false H2) → tt ((wipe σ ws).set j (some x)) H1 B)
    (q : ∀ D H1, H D = none → Same H H1 → H1 D = some (.lst []) → Q (.ref D) H1) :
    ∃ a, V.ref p = .ref a ∧ (∃ xs, SqL K H a xs) ∧ LcW (Itl K a) (gName j) tt te ws σ H Q := by
  refine ⟨p, rfl, ⟨xs, hx⟩, fun D hD => lc_list (K := K) (a := p) (xs := xs) (fun i H' => Same H H' ∧ H' D = some (.lst [])) ⟨Same.new (Same.refl H) hD, upd_same⟩ (fun i H' _ e => Same.seq e.1 hx) (fun i x H' hi e => ?_) (fun H' e => q D H' hD e.1 e.2)⟩
  refine ⟨hw x, ?_⟩
  show tt _ _ _
  refine he x H' _ (List.mem_of_getElem? hi) e.1 (fun H2 s2 => ?_)
  rw [if_neg (fun z => by cases z)]
  exact ⟨Same.trans e.1 s2, s2 _ _ e.2⟩
end
end Vs

/-! ## texts -/
namespace Vs
open PySem PySem.Spec PyProof.Rows L2
/-- a sign in a text -/
def rInC : R2 := fun x y H Q => ∃ (c : Nat) (z : Str), x = .str ⟨#[c]⟩ ∧ y = .str z ∧ Q (.bl (decide (c ∈ z.cps.toList))) H
section
variable {K : PySem.W.Frag} {σ : L2.St} {H : Hp} {Q : VK} {te : TE} {ws : List Nat}
theorem r_iStr {R : It → Hp → Prop} (q : te σ H fun v H1 => ∃ x, v = .str x ∧ R (Its x) H1) : iStr te σ H R := q
/-- a comprehension over a text, no test, nothing laid -/
theorem r_lcS {j : Nat} {z : Str} (f : Nat → V) (hz : z.cps.size ≤ 100000) (hw : ∀ x, wipe ((wipe σ ws).set j (some x)) ws = wipe σ ws)
    (he : ∀ (c : Nat) (D : Addr) (acc : List V) (Q' : VK), c ∈ z.cps.toList → H D = none → Q' (f c) (upd H D (.lst acc)) → te ((wipe σ ws).set j (some (.str ⟨#[c]⟩))) (upd H D (.lst acc)) Q')
    (q : ∀ D, H D = none → Q (.ref D) (upd H D (.lst (z.cps.toList.map f)))) :
    ∃ x, V.str z = .str x ∧ LcW (Its x) (gName j) tYes te ws σ H Q := by
  refine ⟨z, rfl, fun D hD => ⟨fun i m H' => m = z.cps.size - i ∧ i ≤ z.cps.size ∧ H' = upd H D (.lst ((z.cps.toList.take i).map f)), ⟨z.cps.size, by simp, Nat.zero_le _, by simp⟩, ?_⟩⟩
  rintro i m H' ⟨rfl, hi, rfl⟩
  by_cases hlt : i < z.cps.size
  · refine .inr ⟨hlt, fun H2 => H2 = upd H D (.lst ((z.cps.toList.take (i + 1)).map f)), fun H2 e => ⟨z.cps.size - (i + 1), by omega, rfl, hlt, e⟩, fun x H2 y => ?_⟩
    obtain ⟨rfl, c, hc, rfl⟩ := y
    refine ⟨hw _, ?_⟩
    show te _ _ _
    have hc2 : z.cps.toList[i]? = some c := by rw [← hc]; simp
    refine he c D _ _ (List.mem_of_getElem? hc2) hD ⟨_, upd_same, ?_, ?_⟩
    · rw [List.length_map, List.length_take]
      have h2 : (100000 : Nat) < sizeLine := by rw [sizeLine_eq]; decide
      omega
    · rw [upd2]
      congr 2
      rw [List.take_add_one, hc2, List.map_append]
      rfl
  · refine .inl ⟨?_, ?_⟩
    · show z.cps.size ≤ i
      omega
    · have e : z.cps.toList.take i = z.cps.toList := List.take_of_length_le (by simp; omega)
      rw [e]
      exact q D hD
theorem r_inC {c : Nat} {z : Str} (q : Q (.bl (decide (c ∈ z.cps.toList))) H) : rInC (.str ⟨#[c]⟩) (.str z) H Q := ⟨c, z, rfl, rfl, q⟩
/-- a text some times over -/
def rTimS : R2 := fun x y H Q => ∃ (z : Str) (n : Int), x = .str z ∧ y = .int n ∧ MulOk z n ∧ Q (.str (Txt.mul z n)) H
theorem op_timS {X : Cx} : OpR X (binaryOp .Mult) rTimS := by
  intro pins s σ H x y v u Q I rx ry h
  obtain ⟨z, n, rfl, rfl, ok, q⟩ := h
  obtain ⟨t, rfl⟩ := rx
  obtain ⟨t', rfl⟩ := ry
  exact SB.mul ok fun t2 k => ⟨.str (Txt.mul z n), H, I.tok _, ⟨_, rfl⟩, q⟩
theorem r_timS {z : Str} {n : Int} (ok : MulOk z n) (q : Q (.str (Txt.mul z n)) H) : rTimS (.str z) (.int n) H Q := ⟨z, n, rfl, rfl, ok, q⟩
/-- two texts behind each other; a part of a text -/
def rCatS : R2 := fun x y H Q => ∃ i j, x = .str i ∧ y = .str j ∧ i.length + j.length ≤ sizeLine ∧ Q (.str (i ++ j)) H
theorem r_catS {i j : Str} (h : i.length + j.length ≤ sizeLine) (q : Q (.str (i ++ j)) H) : rCatS (.str i) (.str j) H Q := ⟨i, j, rfl, rfl, h, q⟩
theorem op_catS {X : Cx} : OpR X (binaryOp .Add) rCatS := op_add_str
theorem r_slS {z : Str} {lo hi : Option Int} (h : z.length ≤ sizeLine) (q : Q (.str (cutS z lo hi)) H) : rSlS (.str z) lo hi H Q := ⟨z, rfl, h, q⟩
end
end Vs

/-! ## comprehensions whose elements change the heap; more of texts -/
namespace Vs
open PySem PySem.Spec PyProof.Rows L2
section
variable {K : PySem.W.Frag} {σ : L2.St} {H : Hp} {Q : VK} {te : TE} {ws : List Nat}
theorem lc_any {J : It} {n : Nat} {G : Hp → Prop} {Y : Nat → Hp → V → Hp → Prop} (w : Walk J n G Y) (hn : n ≤ 100000) {j : Nat} (Pv : Addr → Nat → List V → Hp → Prop)
    (hw : ∀ x, wipe ((wipe σ ws).set j (some x)) ws = wipe σ ws) (hY : ∀ i H x H', Y i H x H' → H' = H)
    (h0 : ∀ D, H D = none → Pv D 0 [] (upd H D (.lst [])))
    (hG : ∀ D i acc H', Pv D i acc H' → G H')
    (hs : ∀ (D : Addr) (i : Nat) (x : V) (acc : List V) (H' : Hp) (Q' : VK), H D = none → i < n → Y i H' x H' → H' D = some (.lst acc) → Pv D i acc H' → (∀ y H4, H4 D = some (.lst acc) → Pv D (i + 1) (acc ++ [y]) (upd H4 D (.lst (acc ++ [y]))) → Q' y H4) → te ((wipe σ ws).set j (some x)) H' Q')
    (hd : ∀ D acc H', H D = none → H' D = some (.lst acc) → acc.length = n → Pv D n acc H' → Q (.ref D) H') : LcW J (gName j) tYes te ws σ H Q := by
  intro D hD
  refine lc_it w (fun i H' => ∃ acc, H' D = some (.lst acc) ∧ acc.length = i ∧ Pv D i acc H') ⟨[], upd_same, rfl, h0 D hD⟩ (fun i H' _ ⟨acc, _, _, p⟩ => hG D i acc H' p) (fun i x H1 H' hi ⟨acc, ha, hl, p⟩ y => ?_) (fun H' ⟨acc, ha, hl, p⟩ => hd D acc H' hD ha hl p)
  have e := hY _ _ _ _ y
  subst e
  refine ⟨hw x, ?_⟩
  show te _ _ _
  refine hs D i x acc _ _ hD hi y ha p (fun y H4 h4 p4 => ⟨acc, h4, ?_, acc ++ [y], upd_same, by simp [hl], p4⟩)
  have h2 : (100000 : Nat) < sizeLine := by rw [sizeLine_eq]; decide
  omega
theorem r_lcR1 {j : Nat} {k : Int} (Pv : Addr → Nat → List V → Hp → Prop) (b : k ≤ 100000) (b0 : 0 ≤ k)
    (hw : ∀ x, wipe ((wipe σ ws).set j (some x)) ws = wipe σ ws)
    (h0 : ∀ D, H D = none → Pv D 0 [] (upd H D (.lst [])))
    (hs : ∀ (D : Addr) (i : Nat) (acc : List V) (H' : Hp) (Q' : VK), H D = none → i < k.toNat → H' D = some (.lst acc) → Pv D i acc H' → (∀ y H4, H4 D = some (.lst acc) → Pv D (i + 1) (acc ++ [y]) (upd H4 D (.lst (acc ++ [y]))) → Q' y H4) → te ((wipe σ ws).set j (some (.int (i : Int)))) H' Q')
    (hd : ∀ D acc H', H D = none → H' D = some (.lst acc) → acc.length = k.toNat → Pv D k.toNat acc H' → Q (.ref D) H') :
    ∃ k2 : Int, [V.int k] = [.int k2] ∧ -(2 ^ 62) ≤ k2 ∧ k2 < 2 ^ 62 ∧ LcW (Itr 0 k2.toNat) (gName j) tYes te ws σ H Q :=
  ⟨k, rfl, by omega, by omega, lc_any walk_range (by omega) Pv hw (fun _ _ _ _ y => y.1) h0 (fun _ _ _ _ _ => trivial)
    (fun D i x acc H' Q' hD hi y ha p hq => by
      have e : x = .int (i : Int) := y.2.trans (congrArg V.int (Int.zero_add _))
      rw [e]; exact hs D i acc H' Q' hD hi ha p hq) hd⟩
theorem r_lcL {j : Nat} {p : Addr} {xs : List V} (Pv : Addr → Nat → List V → Hp → Prop) (hx : SqL K H p xs) (hz : xs.length ≤ 100000)
    (hw : ∀ x, wipe ((wipe σ ws).set j (some x)) ws = wipe σ ws)
    (h0 : ∀ D, H D = none → Pv D 0 [] (upd H D (.lst [])))
    (hG : ∀ D i acc H', Pv D i acc H' → SqL K H' p xs)
    (hs : ∀ (D : Addr) (i : Nat) (x : V) (acc : List V) (H' : Hp) (Q' : VK), H D = none → xs[i]? = some x → H' D = some (.lst acc) → Pv D i acc H' → (∀ y H4, H4 D = some (.lst acc) → Pv D (i + 1) (acc ++ [y]) (upd H4 D (.lst (acc ++ [y]))) → Q' y H4) → te ((wipe σ ws).set j (some x)) H' Q')
    (hd : ∀ D acc H', H D = none → H' D = some (.lst acc) → acc.length = xs.length → Pv D xs.length acc H' → Q (.ref D) H') :
    ∃ a, V.ref p = .ref a ∧ (∃ xs, SqL K H a xs) ∧ LcW (Itl K a) (gName j) tYes te ws σ H Q :=
  ⟨p, rfl, ⟨xs, hx⟩, lc_any walk_list hz Pv hw (fun _ _ _ _ y => y.1) h0 hG (fun D i x acc H' Q' hD hi y ha p hq => hs D i x acc H' Q' hD y.2 ha p hq) hd⟩
theorem r_lcT {j : Nat} {p : Addr} {xs : List V} (Pv : Addr → Nat → List V → Hp → Prop) (hx : SqT K H p xs) (hz : xs.length ≤ 100000)
    (hw : ∀ x, wipe ((wipe σ ws).set j (some x)) ws = wipe σ ws)
    (h0 : ∀ D, H D = none → Pv D 0 [] (upd H D (.lst [])))
    (hG : ∀ D i acc H', Pv D i acc H' → SqT K H' p xs)
    (hs : ∀ (D : Addr) (i : Nat) (x : V) (acc : List V) (H' : Hp) (Q' : VK), H D = none → xs[i]? = some x → H' D = some (.lst acc) → Pv D i acc H' → (∀ y H4, H4 D = some (.lst acc) → Pv D (i + 1) (acc ++ [y]) (upd H4 D (.lst (acc ++ [y]))) → Q' y H4) → te ((wipe σ ws).set j (some x)) H' Q')
    (hd : ∀ D acc H', H D = none → H' D = some (.lst acc) → acc.length = xs.length → Pv D xs.length acc H' → Q (.ref D) H') :
    ∃ a, V.ref p = .ref a ∧ (∃ xs, SqT K H a xs) ∧ LcW (Itt K a) (gName j) tYes te ws σ H Q :=
  ⟨p, rfl, ⟨xs, hx⟩, lc_any walk_tup hz Pv hw (fun _ _ _ _ y => y.1) h0 hG (fun D i x acc H' Q' hD hi y ha p hq => hs D i x acc H' Q' hD y.2 ha p hq) hd⟩
theorem lc_anyT {tt : TT} {J : It} {n : Nat} {G : Hp → Prop} {Y : Nat → Hp → V → Hp → Prop} (w : Walk J n G Y) (hn : n ≤ 100000) {j : Nat} (Pv : Addr → Nat → List V → Hp → Prop)
    (hw : ∀ x, wipe ((wipe σ ws).set j (some x)) ws = wipe σ ws) (hY : ∀ i H x H', Y i H x H' → H' = H)
    (h0 : ∀ D, H D = none → Pv D 0 [] (upd H D (.lst [])))
    (hG : ∀ D i acc H', Pv D i acc H' → G H')
    (hs : ∀ (D : Addr) (i : Nat) (x : V) (acc : List V) (H' : Hp) (B : Bool → Hp → Prop), H D = none → i < n → Y i H' x H' → H' D = some (.lst acc) → Pv D i acc H' → (∀ H3, H3 D = some (.lst acc) → Pv D (i + 1) acc H3 → B false H3) →
      (∀ H3, te ((wipe σ ws).set j (some x)) H3 (fun y H4 => H4 D = some (.lst acc) ∧ Pv D (i + 1) (acc ++ [y]) (upd H4 D (.lst (acc ++ [y])))) → B true H3) → tt ((wipe σ ws).set j (some x)) H' B)
    (hd : ∀ D acc H', H D = none → H' D = some (.lst acc) → Pv D n acc H' → Q (.ref D) H')
    (hm : ∀ {σ' H' A B}, (∀ y H4, A y H4 → B y H4) → te σ' H' A → te σ' H' B) : LcW J (gName j) tt te ws σ H Q := by
  intro D hD
  refine lc_it w (fun i H' => ∃ acc, H' D = some (.lst acc) ∧ acc.length ≤ i ∧ Pv D i acc H') ⟨[], upd_same, Nat.le_refl _, h0 D hD⟩ (fun i H' _ ⟨acc, _, _, p⟩ => hG D i acc H' p) (fun i x H1 H' hi ⟨acc, ha, hl, p⟩ y => ?_) (fun H' ⟨acc, ha, hl, p⟩ => hd D acc H' hD ha p)
  have e := hY _ _ _ _ y
  subst e
  refine ⟨hw x, ?_⟩
  show tt _ _ _
  refine hs D i x acc _ _ hD hi y ha p (fun H3 h3 p3 => ?_) (fun H3 ht => ?_)
  · rw [if_neg (fun z => by cases z)]
    exact ⟨acc, h3, by omega, p3⟩
  · rw [if_pos rfl]
    refine hm (fun y H4 hh => ⟨acc, hh.1, ?_, acc ++ [y], upd_same, by simp; omega, hh.2⟩) ht
    have h2 : (100000 : Nat) < sizeLine := by rw [sizeLine_eq]; decide
    omega
theorem mono_var {k : Nat} : ∀ {σ' : L2.St} {H' : Hp} {A B : VK}, (∀ y H4, A y H4 → B y H4) → tVar k σ' H' A → tVar k σ' H' B := fun h ⟨v, e, q⟩ => ⟨v, e, h _ _ q⟩
/-- over a list, with a test; the element is a name -/
theorem r_lcLT {tt : TT} {j k : Nat} {p : Addr} {xs : List V} (Pv : Addr → Nat → List V → Hp → Prop) (hx : SqL K H p xs) (hz : xs.length ≤ 100000)
    (hw : ∀ x, wipe ((wipe σ ws).set j (some x)) ws = wipe σ ws)
    (h0 : ∀ D, H D = none → Pv D 0 [] (upd H D (.lst [])))
    (hG : ∀ D i acc H', Pv D i acc H' → SqL K H' p xs)
    (hs : ∀ (D : Addr) (i : Nat) (x : V) (acc : List V) (H' : Hp) (B : Bool → Hp → Prop), H D = none → xs[i]? = some x → H' D = some (.lst acc) → Pv D i acc H' → (∀ H3, H3 D = some (.lst acc) → Pv D (i + 1) acc H3 → B false H3) →
      (∀ H3, tVar k ((wipe σ ws).set j (some x)) H3 (fun y H4 => H4 D = some (.lst acc) ∧ Pv D (i + 1) (acc ++ [y]) (upd H4 D (.lst (acc ++ [y])))) → B true H3) → tt ((wipe σ ws).set j (some x)) H' B)
    (hd : ∀ D acc H', H D = none → H' D = some (.lst acc) → Pv D xs.length acc H' → Q (.ref D) H') :
    ∃ a, V.ref p = .ref a ∧ (∃ xs, SqL K H a xs) ∧ LcW (Itl K a) (gName j) tt (tVar k) ws σ H Q :=
  ⟨p, rfl, ⟨xs, hx⟩, lc_anyT walk_list hz Pv hw (fun _ _ _ _ y => y.1) h0 hG (fun D i x acc H' B hD hi y ha p h1 h2 => hs D i x acc H' B hD y.2 ha p h1 h2) hd mono_var⟩
/-- over range(k), the element is told by the number alone -/
theorem r_lcRP {j : Nat} {k : Int} (f : Nat → V) (b : k ≤ 100000) (b0 : 0 ≤ k) (hw : ∀ x, wipe ((wipe σ ws).set j (some x)) ws = wipe σ ws)
    (hs : ∀ (i : Nat) (H' : Hp) (Q' : VK), i < k.toNat → Q' (f i) H' → te ((wipe σ ws).set j (some (.int (i : Int)))) H' Q')
    (q : ∀ D, H D = none → Q (.ref D) (upd H D (.lst ((List.range k.toNat).map f)))) :
    ∃ k2 : Int, [V.int k] = [.int k2] ∧ -(2 ^ 62) ≤ k2 ∧ k2 < 2 ^ 62 ∧ LcW (Itr 0 k2.toNat) (gName j) tYes te ws σ H Q :=
  r_lcR1 (fun D i acc H' => acc = (List.range i).map f ∧ H' = upd H D (.lst acc)) b b0 hw (fun D _ => ⟨rfl, rfl⟩)
    (fun D i acc H' Q' _ hi _ p hq => hs i H' Q' hi (hq _ _ (by rw [p.2]; exact upd_same) ⟨by rw [p.1, List.range_succ, List.map_append]; rfl, by rw [p.2, upd2]⟩))
    (fun D acc H' hD _ _ p => by rw [p.2, p.1]; exact q D hD)
/-! texts -/
def rUpper : V → List V → Hp → VK → Prop := fun x xs H Q => ∃ a, x = .str a ∧ xs = [] ∧ a.length ≤ 5592405 ∧ Q (.str (Txt.upper a)) H
def rJoin (K : PySem.W.Frag) : V → List V → Hp → VK → Prop := fun x xs H Q => ∃ a p, ∃ ys : List Str, x = .str a ∧ xs = [.ref p] ∧ (SqL K H p (ys.map V.str) ∨ SqT K H p (ys.map V.str)) ∧ (ys.map (·.length)).sum + ys.length * a.length ≤ 16777216 ∧ Q (.str (Txt.join a ys)) H
def rStrI : List V → Hp → VK → Prop := fun xs H Q => ∃ i, xs = [.int i] ∧ i.natAbs.log2 < 1920 ∧ Q (.str (Str.ofString (toString i))) H
theorem r_m0 {r : V → List V → Hp → VK → Prop} (q : te σ H fun x H1 => (∃ a, x = .str a) ∧ r x [] H1 Q) : tM0 r te σ H Q := q
theorem r_m1 {tb : TE} {r : V → List V → Hp → VK → Prop} (q : te σ H fun x H1 => (∃ a, x = .str a) ∧ tb σ H1 fun y H2 => r x [y] H2 Q) : tM1 r te tb σ H Q := q
theorem r_exS {z : Str} {P : Prop} (q : P) : (∃ a, V.str z = .str a) ∧ P := ⟨⟨z, rfl⟩, q⟩
theorem r_upper {z : Str} (h : z.length ≤ 100000) (q : Q (.str (Txt.upper z)) H) : rUpper (.str z) [] H Q := ⟨z, rfl, rfl, by omega, q⟩
theorem r_join {z : Str} {p : Addr} {ys : List Str} (h : SqL K H p (ys.map V.str)) (l : (ys.map (·.length)).sum + ys.length * z.length ≤ 16777216) (q : Q (.str (Txt.join z ys)) H) : rJoin K (.str z) [.ref p] H Q := ⟨z, p, ys, rfl, rfl, .inl h, l, q⟩
theorem r_strI {i : Int} (h : i.natAbs.log2 < 1920) (q : Q (.str (Str.ofString (toString i))) H) : rStrI [.int i] H Q := ⟨i, rfl, h, q⟩
theorem log2_small {i : Int} (h0 : -1000000000000000000 ≤ i) (h1 : i ≤ 1000000000000000000) : i.natAbs.log2 < 1920 := by
  have h : i.natAbs ≤ 1000000000000000000 := by omega
  have h2 : i.natAbs < 2 ^ 1920 := Nat.lt_of_le_of_lt h (by decide)
  by_cases z : i.natAbs = 0
  · rw [z]; decide
  · exact (Nat.log2_lt z).mpr h2
end
theorem glued_go {sep : Str} : ∀ (ys : List Str) (acc : Array Nat), (List.foldl (fun acc p => acc ++ sep.cps ++ p.cps) acc ys).toList = acc.toList ++ (ys.map fun y => sep.cps.toList ++ y.cps.toList).flatten
  | [], acc => by simp
  | y :: ys, acc => by
    rw [List.foldl_cons, glued_go ys]
    simp
theorem join_l {sep : Str} {y : Str} {ys : List Str} : (Txt.join sep (y :: ys)).cps.toList = y.cps.toList ++ (ys.map fun y => sep.cps.toList ++ y.cps.toList).flatten := by
  exact glued_go _ _
theorem join0 {sep : Str} : (Txt.join sep []).cps.toList = [] := rfl
/-- joined by nothing -/
theorem join_e {ys : List Str} : (Txt.join "" ys).cps.toList = (ys.map fun y => y.cps.toList).flatten := by
  cases ys with
  | nil => rfl
  | cons y ys =>
    rw [join_l, List.map_cons, List.flatten_cons]
    rfl
theorem mul_l {z : Str} {n : Int} (h : 1 ≤ n) : (Txt.mul z n).cps.toList.length = z.cps.toList.length * n.toNat := by
  unfold Txt.mul
  rw [if_neg (by omega)]
  split
  · rename_i hh
    simp only [Bool.or_eq_true, beq_iff_eq] at hh
    rcases hh with rfl | hz
    · simp
    · have : z.cps.toList.length = 0 := by rw [Array.length_toList]; exact hz
      rw [this]; simp
  · have go : ∀ (m : Nat) (acc : Array Nat), (List.foldl (fun x1 x2 => x1 ++ x2) acc (List.replicate m z.cps)).toList.length = acc.toList.length + z.cps.toList.length * m := by
      intro m
      induction m with
      | zero => intro acc; simp
      | succ m ih =>
        intro acc
        rw [List.replicate_succ, List.foldl_cons, ih]
        simp only [Array.length_toList, Array.size_append]
        rw [Nat.mul_succ]; omega
    rw [go]
    simp
theorem upper_l {z : Str} : (Txt.upper z).cps.toList = (z.cps.toList.map Unicode.upperOf).flatten := by
  unfold Txt.upper placed
  simp only [Array.toList_flatten, Array.toList_mapIdx]
  congr 1
  apply List.ext_getElem
  · simp
  · intro i h1 h2
    simp
theorem mulOk_small {z : Str} {n : Int} (h0 : 0 ≤ n) (h1 : n ≤ 1000) (hz : z.length ≤ 1000) : MulOk z n := by
  refine ⟨?_, fun a b => ?_, fun a b => ?_⟩
  · rw [decide_eq_false (by omega), decide_eq_false (by omega)]; rfl
  · have : (1000 : Int) ≤ (2 ^ 63 - 1) / n := by
      rw [Int.le_ediv_iff_mul_le (by omega)]
      have : 1000 * n ≤ 1000 * 1000 := Int.mul_le_mul_of_nonneg_left h1 (by decide)
      omega
    omega
  · unfold Builtin.Str.tooLong
    have : z.length * n.toNat ≤ 1000 * 1000 := Nat.mul_le_mul hz (by omega)
    rw [sizeLine_eq]
    exact decide_eq_false (by omega)
end Vs

/-! ## own exceptions with an own __init__ -/
namespace Vs
open PySem PySem.Spec PyProof.Rows L2
/-- what the written part says of such a class -/
def oexB (K : PySem.W.Frag) (C f : Addr) : Bool :=
  (match K.lookup C with
    | some ⟨.type "type", _, .cls cd, sl⟩ => (match cd.mro, sl.toList with
      | .ref C' :: bm, [_, _, _, _, some (.builtin n), _] => C' == C && n == "ValueError.__new__" && !cd.hasDel && cd.hasDict && PySem.HandSPX.refsVE bm
      | _, _ => false)
    | _ => false) && (decide (PySem.W.findIn K (.ref C) "__setattr__" = some (some (.builtin "object.__setattr__"))) && (decide (PySem.W.subIn K (.ref C) (.type "BaseException") = some true) &&
  (decide (PySem.W.typeIn K (.ref C) = some (.type "type")) && (PySem.W.keepIn K (.ref C) && (decide (PySem.W.findIn K (.ref C) "__init__" = some (some (.ref f))) && decide (PySem.W.typeIn K (.ref f) = some (.type "function")))))))
structure OexD (K : PySem.W.Frag) (C f : Addr) : Prop where
  c : OexC K C
  i : PySem.W.findIn K (.ref C) "__init__" = some (some (.ref f))
  t : PySem.W.typeIn K (.ref f) = some (.type "function")
theorem oexB_ok {K : PySem.W.Frag} {C f : Addr} (h : oexB K C f = true) : OexD K C f := by
  obtain ⟨q, h⟩ := b2 h
  obtain ⟨h2, h⟩ := b2 h
  obtain ⟨h3, h⟩ := b2 h
  obtain ⟨h4, h⟩ := b2 h
  obtain ⟨h5, h⟩ := b2 h
  obtain ⟨h6, h7⟩ := b2 h
  refine ⟨⟨?_, of_decide_eq_true h2, of_decide_eq_true h3, of_decide_eq_true h4, h5⟩, of_decide_eq_true h6, of_decide_eq_true h7⟩
  split at q
  · rename_i dd cd sl ho
    split at q
    · rename_i C' bm k0 k1 k2 k3 n k5 hm hs
      simp only [Bool.and_eq_true, beq_iff_eq, Bool.not_eq_true'] at q
      obtain ⟨⟨⟨⟨rfl, rfl⟩, hdel⟩, hdct⟩, ht⟩ := q
      obtain ⟨nm, bs, mro, ns, qn, hd, sn, sub, ab, col, del⟩ := cd
      dsimp only at hm hdel hdct
      subst hm hdel hdct
      have hsl : sl = #[k0, k1, k2, k3, some (.builtin "ValueError.__new__"), k5] := by
        obtain ⟨l⟩ := sl
        simp only at hs
        rw [hs]
      subst hsl
      exact ⟨nm, qn, ns, bs, bm, sn, sub, ab, col, dd, k0, k1, k2, k3, k5, ho, ht⟩
    · cases q
  · cases q
/-- a class's own way to ValueError.__init__ -/
def beB (K : PySem.W.Frag) (B : Addr) : Bool := decide (PySem.W.specialIn K (.ref B) "__getattribute__" = some (some (.builtin "type.__getattribute__"))) && (decide (PySem.W.typeIn K (.ref B) = some (.type "type")) &&
  (PySem.W.readsIn K B (.type "type") && (match PySem.W.findCls K (.ref B) (.type "type") "__init__" with | some (.val (.builtin n)) => n == "ValueError.__init__" | _ => false)))
structure BeC (K : PySem.W.Frag) (B : Addr) : Prop where
  g : PySem.W.specialIn K (.ref B) "__getattribute__" = some (some (.builtin "type.__getattribute__"))
  t : PySem.W.typeIn K (.ref B) = some (.type "type")
  r : PySem.W.readsIn K B (.type "type") = true
  v : PySem.W.findCls K (.ref B) (.type "type") "__init__" = some (.val (.builtin "ValueError.__init__"))
theorem beB_ok {K : PySem.W.Frag} {B : Addr} (h : beB K B = true) : BeC K B := by
  obtain ⟨h1, h⟩ := b2 h
  obtain ⟨h2, h⟩ := b2 h
  obtain ⟨h3, h4⟩ := b2 h
  refine ⟨of_decide_eq_true h1, of_decide_eq_true h2, h3, ?_⟩
  split at h4
  · rename_i n e
    have := beq_iff_eq.mp h4
    subst this
    exact e
  · cases h4
section
variable {X : Cx} {e : Expr} {es : List Expr} {ta : TA} {p p1 p2 pos : Pos}
/-- B.__init__(self, ..), B an own class over ValueError -/
theorem pe_beinit {pl : Sem Bool} {x : Str} {B : Addr} (T : BeC X.K B) (hg : Gl X x) (hm : X.mg x = some (.ref B)) (ha : PA X (e :: es) ta) (hdb : (x == ("__debug__" : Str)) = false := by decide)
    (hc : eval (.Call (.Attribute (.Name x p1) "__init__" p2) (e :: es) [] pos) X.env = (do
      let ov ← eval (.Name x p1) X.env
      standAt p2.atName
      let (f, first) ← holding [ov] (getMethod ov "__init__" pl)
      callWith pos f first (backTo pos (starEach (e :: es) X.env)) (backToKw pos (keywordEach [] X.env))) := by rfl)
    (he : starEach (e :: es) X.env = (false, eval e X.env) :: starEach es X.env := by rfl) (hpl : (backTo pos (starEach es X.env)).any (·.1) = false := by rfl) :
    PE X (.Call (.Attribute (.Name x p1) "__init__" p2) (e :: es) [] pos) (tVeI X.K ta) := by
  refine ⟨fun pins s σ H Q I h => ?_⟩
  refine PySem.W.methodCall_KW (ld_glob I hg hm ?_ hdb) hc
  obtain ⟨m, fr⟩ := I.fr
  refine PySem.W.method_of_cls fr I.ok.mod.kin T.g (PySem.W.cls_val fr I.ok.mod.kin T.t T.r T.v (by decide +kernel) ?_)
  show wpAny _ _ (callWith pos (Value.builtin "ValueError.__init__") [] (backTo pos (starEach (e :: es) X.env)) []) _ _ _
  refine PyProof.Rows.callWith_method1 (thn (ha.run pos pins _ σ H _ (I.tok _) h) fun us s1 ⟨vs, H1, I1, r1, a, C, ws, ev, hl, T, ea, q⟩ => ?_) he hpl
  subst ev
  cases r1 with
  | @cons _ u0 _ ur ra rw' =>
    obtain rfl : u0 = Value.ref a := ra
    have hlen : ur.length ≤ sizeLine := by
      rw [← Paired.length rw', sizeLine_eq]
      omega
    exact oinit_ok T I1 ea hlen fun s' J => ⟨.non, H1, J, rfl, q⟩
end
/-- raise C(..): the reading -/
def tRaiseO (E : XK) (C : Addr) (sp : Sp) (dvs : List V) (ta : TA) : TS := fun _ σ H => tMkO C sp dvs ta σ H E
section
variable {K : PySem.W.Frag} {σ : L2.St} {H : Hp} {Q : VK} {D : Ends} {E : XK} {C : Addr}
theorem r_raiseO {sp : Sp} {dvs : List V} {ta : TA} (q : ta σ H fun vs H1 => vs.length ≤ 1000 ∧ ∀ a, H1 a = none → sp (.ref a :: (vs ++ dvs)) (upd H1 a (exo a C none))
  (fun v H2 => v = .non ∧ ∃ (d : Addr) (fs : List (Str × V)), H2 a = some (exo a C (some d)) ∧ H2 d = some (exd d fs) ∧ H1 d = none ∧ E (.ref C) (some d) (upd (del H2 a) d (.xd fs))) (fun _ _ _ => False)) : tRaiseO E C sp dvs ta D σ H := q
theorem r_veI {ta : TA} (q : ta σ H fun vs H1 => ∃ (a C : Addr) (ws : List V), vs = .ref a :: ws ∧ ws.length ≤ 1000 ∧ OexC K C ∧ H1 a = some (exo a C none) ∧ Q .non H1) : tVeI K ta σ H Q := q
theorem r_veIa {a : Addr} {ws : List V} {P : Prop} (hl : ws.length ≤ 1000) (o : OexC K C) (h : H a = some (exo a C none)) (q : P) : ∃ (a' C : Addr) (ws' : List V), V.ref a :: ws = .ref a' :: ws' ∧ ws'.length ≤ 1000 ∧ OexC K C ∧ H a' = some (exo a' C none) ∧ P := ⟨a, C, ws, rfl, hl, o, h, q⟩
def rOst (K : PySem.W.Frag) (f : Str) (y x : V) (H2 : Hp) (P : Hp → Prop) : Prop := ∃ a C : Addr, x = .ref a ∧ OexC K C ∧ PySem.W.findIn K (.ref C) f = some none ∧
  ((H2 a = some (exo a C none) ∧ ∀ dx, H2 dx = none → dx ≠ a → P (upd (upd H2 dx (exd dx [(f, y)])) a (exo a C (some dx)))) ∨
    ∃ (dx : Addr) (fs : List (Str × V)), H2 a = some (exo a C (some dx)) ∧ H2 dx = some (exd dx fs) ∧ fs.length ≤ 900 ∧ P (upd H2 dx (exd dx ((f, y) :: fs))))
theorem r_ost {f : Str} {to te : TE} (q : te σ H fun y H1 => to σ H1 fun x H2 => rOst K f y x H2 fun H3 => D.nx σ H3) : tOst K f to te D σ H := q
theorem r_ostN {a : Addr} {f : Str} {y : V} {P : Hp → Prop} (o : OexC K C) (n : PySem.W.findIn K (.ref C) f = some none) (h : H a = some (exo a C none)) (q : ∀ dx, H dx = none → dx ≠ a → P (upd (upd H dx (exd dx [(f, y)])) a (exo a C (some dx)))) : rOst K f y (.ref a) H P := ⟨a, C, rfl, o, n, .inl ⟨h, q⟩⟩
/-- what stands behind the making of an exception -/
theorem same_exc {H1 H2 : Hp} {a d : Addr} {u : HO} (na : H1 a = none) (nd : H1 d = none) (s : Same H1 H2) : Same H1 (upd (del H2 a) d u) := fun b o h => by
  rw [upd_ne (ne_of_none h nd), del_ne (ne_of_none h na)]
  exact s b o h
end
/-! isinstance of what a suite holds, with its fields or without -/
def XDok (H : Hp) (d : Option Addr) : Prop := d = none ∨ ∃ dd fs, d = some dd ∧ H dd = some (.xd fs)
def rIsY (K : PySem.W.Frag) (cls : Value) (d : Option Addr) (a : Addr) : List V → Hp → VK → Prop := fun xs H Q =>
  ∃ (c : V) (cv : Value) (D : Addr) (b : Bool), xs = [.ref a, c] ∧ cls = .ref D ∧ XDok H d ∧ ExcC K D ∧ ClsV c cv ∧ PySem.W.kitOne K (.ref D) cv = some b ∧ Q (.bl b) H
def rIsYT (K : PySem.W.Frag) (cls : Value) (d : Option Addr) (a : Addr) : List V → Hp → VK → Prop := fun xs H Q =>
  ∃ (tp : Addr) (cs : List V) (us : List Value) (D : Addr) (b : Bool), xs = [.ref a, .ref tp] ∧ H tp = some (.tup cs) ∧ cls = .ref D ∧ XDok H d ∧ ExcC K D ∧ Paired ClsV cs us ∧ PySem.W.kitAny K (.ref D) us = some b ∧ Q (.bl b) H
theorem inst_y {P : Program} {w : World} {H : Hp} {h : Heap} {a D : Addr} {oe : Obj} {d : Option Addr} (hok : HOk P w H h) (hget : h.get? a = some oe) (hz : Zc (.ref D) d oe) (hf : ∃ vs, oe.data = .fields vs) (hd : XDok H d) : ∃ od, PySem.W.InstAt h a oe D od := by
  obtain ⟨vs, hv⟩ := hf
  have hn : PySem.W.notCls oe = true := by unfold PySem.W.notCls; rw [hv]
  rcases hd with rfl | ⟨dd, fs, rfl, hx⟩
  · exact ⟨none, hget, hz.1, hn, by rw [hz.2]; trivial⟩
  · obtain ⟨mA, hns, _⟩ := (hok dd _ hx : ObjOk P w H h dd (.xd fs))
    obtain ⟨od, ho, _⟩ := lookIn_ns hns
    exact ⟨some od, hget, hz.1, hn, by rw [hz.2]; exact ho⟩
theorem excC_cls {K : PySem.W.Frag} {D : Addr} (C : ExcC K D) : (PySem.W.clsIn K D).isSome = true := by
  have h := C.hd
  unfold PySem.W.hasDictIn at h
  cases e : PySem.W.clsIn K D with
  | none => rw [e] at h; cases h
  | some _ => rfl
theorem call_isY {X : Cx} {a : Addr} {oe : Obj} {cls : Value} {d : Option Addr} {pn : List (Addr × Obj)} (hz : Zc cls d oe) (hf : ∃ vs, oe.data = .fields vs) : CallR (X.suite a ((a, oe) :: pn)) (.builtin "isinstance") (rIsY X.K cls d a) := by
  intro pins s σ H xs us Q I r h
  obtain ⟨c, cv, D, b, rfl, rfl, hd, C, hc, e, q⟩ := h
  obtain ⟨u1, u2, rfl, r1, r2⟩ := vals2 r
  cases (show u1 = Value.ref a from r1)
  have ec := hc.eq r2
  subst ec
  have hget := (I.pin (a, oe) (List.mem_append_left _ List.mem_cons_self)).1
  obtain ⟨od, J⟩ := inst_y I.hok hget hz hf hd
  exact PySem.W.kia_one (PySem.W.kitx_exc (excC_cls C) C.hg C.hk C.hs C.ha C.hn C.ht C.hm) I.kIn J e (fun z => nomatch z) fun tk => ⟨.bl b, H, I.tok tk, rfl, q⟩
theorem call_isYT {X : Cx} {a : Addr} {oe : Obj} {cls : Value} {d : Option Addr} {pn : List (Addr × Obj)} (hz : Zc cls d oe) (hf : ∃ vs, oe.data = .fields vs) : CallR (X.suite a ((a, oe) :: pn)) (.builtin "isinstance") (rIsYT X.K cls d a) := by
  intro pins s σ H xs us Q I r h
  obtain ⟨tp, cs, ws, D, b, rfl, hT, rfl, hd, C, hc, e, q⟩ := h
  obtain ⟨u1, u2, rfl, r1, r2⟩ := vals2 r
  cases (show u1 = Value.ref a from r1)
  cases (show u2 = Value.ref tp from r2)
  have hget := (I.pin (a, oe) (List.mem_append_left _ List.mem_cons_self)).1
  obtain ⟨od, J⟩ := inst_y I.hok hget hz hf hd
  have hO : ObjOk X.prog X.w H s.heap tp (.tup cs) := I.hok tp _ hT
  obtain ⟨_, its, rv, ⟨oc, od, dt, sl⟩, g1, g2, n, g3⟩ := hO
  have e4 : its = ws := ClsV.all hc rv
  subst e4
  dsimp only at g2 g3
  subst g2 g3
  exact PySem.W.kia_tup (PySem.W.kitx_exc (excC_cls C) C.hg C.hk C.hs C.ha C.hn C.ht C.hm) I.kIn J g1 e (fun z => nomatch z) fun tk => ⟨.bl b, H, I.tok tk, rfl, q⟩
theorem xd_none {H : Hp} : XDok H none := .inl rfl
theorem xd_some {H : Hp} {dd : Addr} {fs : List (Str × V)} (h : H dd = some (.xd fs)) : XDok H (some dd) := .inr ⟨dd, fs, rfl, h⟩
/-- e.f of what a suite holds -/
theorem r_xf {σ : L2.St} {H : Hp} {Q : VK} {a C : Addr} {cls : Value} {d : Option Addr} {f : Str} {te : TE} (q : te σ H fun x H1 => x = .ref a ∧ cls = .ref C ∧ ∃ (dd : Addr) (fs : List (Str × V)) (v : V), d = some dd ∧ H1 dd = some (.xd fs) ∧ fs.lookup f = some v ∧ Q v H1) : tXf a cls d C f te σ H Q := q
theorem r_xfa {H : Hp} {P : V → Prop} {a C dd : Addr} {f : Str} {fs : List (Str × V)} {v : V} (h : H dd = some (.xd fs)) (l : fs.lookup f = some v) (q : P v) : V.ref a = .ref a ∧ Value.ref C = .ref C ∧ ∃ (dd' : Addr) (fs : List (Str × V)) (v : V), some dd = some dd' ∧ H dd' = some (.xd fs) ∧ fs.lookup f = some v ∧ P v := ⟨rfl, rfl, dd, fs, v, rfl, h, l, q⟩
end Vs

/-! ## set(xs) of a list of keys of any kind, its length -/
namespace Vs
open PySem PySem.Spec PyProof.Rows L2
/-- how many unlike ones stand among the first i -/
def dcnt {κ : Type} [DecidableEq κ] (ks : List κ) : Nat → Nat
  | 0 => 0
  | i + 1 => match ks[i]? with
    | some k => if k ∈ ks.take i then dcnt ks i else dcnt ks i + 1
    | none => dcnt ks i
theorem dcnt_in {κ : Type} [DecidableEq κ] {ks : List κ} {i : Nat} {k : κ} (h : ks[i]? = some k) (z : k ∈ ks.take i) : dcnt ks (i + 1) = dcnt ks i := by
  show (match ks[i]? with | some k => if k ∈ ks.take i then dcnt ks i else dcnt ks i + 1 | none => dcnt ks i) = _
  rw [h]; exact if_pos z
theorem dcnt_new {κ : Type} [DecidableEq κ] {ks : List κ} {i : Nat} {k : κ} (h : ks[i]? = some k) (z : ¬ k ∈ ks.take i) : dcnt ks (i + 1) = dcnt ks i + 1 := by
  show (match ks[i]? with | some k => if k ∈ ks.take i then dcnt ks i else dcnt ks i + 1 | none => dcnt ks i) = _
  rw [h]; exact if_neg z
theorem dcnt_le {κ : Type} [DecidableEq κ] {ks : List κ} : ∀ i, dcnt ks i ≤ i
  | 0 => Nat.le_refl _
  | i + 1 => by
    have := dcnt_le (ks := ks) i
    unfold dcnt
    split
    · split <;> omega
    · omega
theorem dcnt_eq {κ : Type} [DecidableEq κ] {ks : List κ} : ∀ i, i ≤ ks.length → (dcnt ks i = i ↔ (ks.take i).Nodup)
  | 0, _ => by simp [dcnt]
  | i + 1, hi => by
    have hk : ks[i]? = some ks[i] := List.getElem?_eq_getElem hi
    have ih := dcnt_eq (ks := ks) i (Nat.le_of_lt hi)
    have le := dcnt_le (ks := ks) i
    have e : ks.take (i + 1) = ks.take i ++ [ks[i]] := by rw [List.take_add_one, hk]; rfl
    unfold dcnt
    rw [hk, e]
    dsimp only
    rw [List.nodup_append]
    by_cases hm : ks[i] ∈ ks.take i
    · rw [if_pos hm]
      exact ⟨fun z => by omega, fun z => absurd rfl (z.2.2 _ hm _ (List.mem_singleton.mpr rfl))⟩
    · rw [if_neg hm]
      constructor
      · intro z
        refine ⟨ih.mp (by omega), by simp, fun a ha b hb => ?_⟩
        rw [List.mem_singleton] at hb
        subst hb
        exact fun q => hm (q ▸ ha)
      · intro z
        have := ih.mpr z.1
        omega
/-- len(set(xs)), xs a list of texts -/
def tLenSetG (K : PySem.W.Frag) (ta : TE) : TE := fun σ H Q => ta σ H fun x H1 => ∃ (l : Addr) (zs : List Str), x = .ref l ∧ SqL K H1 l (zs.map V.str) ∧ zs.length ≤ 2000 ∧ Q (.int (dcnt zs zs.length : Nat)) H1
section
variable {K : PySem.W.Frag} {σ : L2.St} {H : Hp} {Q : VK} {ta : TE}
theorem r_lenSetG (q : ta σ H fun x H1 => ∃ (l : Addr) (zs : List Str), x = .ref l ∧ SqL K H1 l (zs.map V.str) ∧ zs.length ≤ 2000 ∧ Q (.int (dcnt zs zs.length : Nat)) H1) : tLenSetG K ta σ H Q := q
theorem r_lsg {l : Addr} {zs : List Str} {P : List Str → Prop} (h : SqL K H l (zs.map V.str)) (few : zs.length ≤ 2000) (q : P zs) : ∃ (l' : Addr) (zs : List Str), V.ref l = .ref l' ∧ SqL K H l' (zs.map V.str) ∧ zs.length ≤ 2000 ∧ P zs := ⟨l, zs, rfl, h, few, q⟩
/-- list(xs) -/
def rListOf (K : PySem.W.Frag) : List V → Hp → VK → Prop := fun xs H Q => ∃ p ys, xs = [.ref p] ∧ (SqL K H p ys ∨ SqT K H p ys) ∧ ∀ l, H l = none → Q (.ref l) (upd H l (.lst ys))
theorem r_listL {p : Addr} {ys : List V} (h : SqL K H p ys) (q : ∀ l, H l = none → Q (.ref l) (upd H l (.lst ys))) : rListOf K [.ref p] H Q := ⟨p, ys, rfl, .inl h, q⟩
theorem r_listT {p : Addr} {ys : List V} (h : SqT K H p ys) (q : ∀ l, H l = none → Q (.ref l) (upd H l (.lst ys))) : rListOf K [.ref p] H Q := ⟨p, ys, rfl, .inr h, q⟩
/-- tuple(xs) -/
def rTupOf (K : PySem.W.Frag) : List V → Hp → VK → Prop := fun xs H Q => ∃ p ys, xs = [.ref p] ∧ ((SqL K H p ys ∧ ∀ l, H l = none → Q (.ref l) (upd H l (.tup ys))) ∨ (SqT K H p ys ∧ Q (.ref p) H))
theorem r_tupL {p : Addr} {ys : List V} (h : SqL K H p ys) (q : ∀ l, H l = none → Q (.ref l) (upd H l (.tup ys))) : rTupOf K [.ref p] H Q := ⟨p, ys, rfl, .inl ⟨h, q⟩⟩
end
end Vs

/-! ## set(xs) of a list of keys of any kind, its length -/
namespace Vs
open PySem PySem.Spec PyProof.Rows L2
section
variable {P : Program} {w : World} {κ : Type} [DecidableEq κ] [BEq κ] [LawfulBEq κ] {knd : KeyKind P w κ}
/-- all that is walked goes into the set at S -/
theorem fillSet {A : Around} {R : Result → Shared → Prop} {I : Addr} {fp wr : List Addr} {G : Array GenState → Array GenState → Prop} {n : Nat} {Pv : Nat → Value → Prop} {St : Nat → Shared → Prop}
    (W : WalksS P w A.in1 I fp wr G n Pv St) (S : Addr) (off : S ∉ fp) (ks : List κ) (item : ∀ i v, i < n → Pv i v → ∃ k, ks[i]? = some k ∧ knd.is k v = true ∧ v.scannable = true) (few : n + 1 < scanBound) :
    ∀ (left i : Nat) (s : Shared), n - i = left → i ≤ n → St i s → s.heap.SetOf knd S (fun k => decide (k ∈ ks.take i)) (dcnt ks i) →
      (∀ s', Moved (S :: wr) G s s' → s'.heap.SetOf knd S (fun k => decide (k ∈ ks.take n)) (dcnt ks n) → R (.ok (.ret .none)) s') →
      codeAny (model P w) A (.builtin "set.update.loop" ⟨[.ref S, .ref I], []⟩) R s
  | 0, i, s, e, le, st, hS, q => by
    obtain rfl : i = n := by omega
    refine codeAny_builtin F.entry_set_update_loop (by
      rw [Around.under_plainId F.plain_set_update_loop _]
      refine wpAny_bind (W.done s _ _ st fun s1 mv => ?_)
      have hS1 : s1.heap.SetOf knd S (fun k => decide (k ∈ ks.take i)) (dcnt ks i) := by
        obtain ⟨o, es, ep, t, ho, more⟩ := hS
        exact ⟨o, es, ep, t, mv.heap S _ (fun z => off (W.sub _ z)) ho, more⟩
      show wpAny _ A.in1 (ret Value.none) _ _ s1
      exact wpAny_pure (q s1 (mv.mono fun b hb => List.mem_cons_of_mem _ hb) hS1))
  | left + 1, i, s, e, le, st, hS, q => by
    have lt : i < n := by omega
    refine codeAny_builtin F.entry_set_update_loop (by
      rw [Around.under_plainId F.plain_set_update_loop _]
      refine wpAny_bind (W.item i s _ _ lt st fun v s1 pv st1 mv => ?_)
      obtain ⟨k, hk, kv, sc⟩ := item i v lt pv
      have hS1 : s1.heap.SetOf knd S (fun k => decide (k ∈ ks.take i)) (dcnt ks i) := by
        obtain ⟨o, es, ep, t, ho, more⟩ := hS
        exact ⟨o, es, ep, t, mv.heap S _ (fun z => off (W.sub _ z)) ho, more⟩
      show wpAny _ A.in1 (holding [v] (setAdd S v) >>= _) _ _ s1
      refine wpAny_bind (wpAny_holding ?_)
      unfold setAdd
      refine wpAny_holding (wpAny_bind (knd.pyHash kv ?_))
      have room : dcnt ks i + 1 < scanBound := by have := dcnt_le (ks := ks) i; omega
      refine wpAny_setAddHashed_of (knd := knd) (s := { s1 with toks := s1.toks + 1 }) kv sc hS1 room fun h2 sb hS2 => ?_
      have e2 : ks.take (i + 1) = ks.take i ++ [k] := by rw [List.take_add_one, hk]; rfl
      have hS3 : h2.SetOf knd S (fun k => decide (k ∈ ks.take (i + 1))) (dcnt ks (i + 1)) := SetOf_congr hS2 (fun j => by
          rw [e2]
          by_cases z : j = k
          · subst z; simp
          · simp [z]) (by
          by_cases z : k ∈ ks.take i
          · rw [dcnt_in hk z, if_pos (decide_eq_true z)]
          · rw [dcnt_new hk z, if_neg (by simpa using z)])
      refine wpAny_pure ⟨plainId_quiet F.plain_set_update_loop _, fillSet W S off ks item few left (i + 1) _ (by omega) lt (W.frame _ s1 _ _ st1 (Nat.le_succ _) fun b hb o z => ?_) hS3 fun s2 mv2 hS4 => q s2 ?_ hS4⟩
      · exact (sb.2 b fun y => off (y ▸ hb)).trans z
      · refine Moved.trans W.gtrans ((mv.mono fun b hb => List.mem_cons_of_mem _ hb).then_heap (Nat.le_succ _) fun b o nb z => ?_) mv2
        exact (sb.2 b fun y => nb (y ▸ List.mem_cons_self)).trans z)
/-- set(xs) -/
theorem setOfList {A : Around} {E : Value → Shared → Prop} {s : Shared} {l : Addr} {its : Array Value} (ks : List κ) {Q : Value → Shared → Prop} (hd : A.handled = none) (hl : s.heap.IsList l its)
    (item : ∀ (i : Nat) (v : Value), its[i]? = some v → ∃ k, ks[i]? = some k ∧ knd.is k v = true ∧ v.scannable = true) (few : its.size + 1 < scanBound)
    (q : ∀ (h2 : Heap) (tk : Nat), h2.SetOf knd s.heap.objs.size (fun k => decide (k ∈ ks.take its.size)) (dcnt ks its.size) → (∀ b o, b < s.heap.objs.size → s.heap.get? b = some o → h2.get? b = some o) → Q (.ref s.heap.objs.size) { s with heap := h2, toks := tk }) :
    wpAny (model P w) A (call (.type "set") [.ref l]) Q E s := by
  obtain ⟨c, tl, hmro⟩ := PySem.F.called_set.mro
  have k1 := PySem.F.called_set.made
  have k2 := PySem.F.called_set.sub
  have k3 := PySem.F.called_set.notType
  have k4 := PySem.F.called_set.canCreate
  have k5 := PySem.F.typeCall_set_1 (.ref l)
  refine wpAny_call (codeAny_of_tree (show wpAny _ _ (callAny (.type "set") _) _ _ _ from wpAny_pure ⟨Code.quiet_builtin _ (by decide +kernel), codeAny_builtin PySem.F.entry_type_call ?_⟩))
  rw [Around.under_plain (weight_type_call_type "set" [.ref l] []) rfl]
  repeat (any_goals (first | assumption | wp_step))
  let fresh : Bool → Obj := fun led => { cls := .type "set", dict := none, data := .set #[] 0 (.fresh 0 0 led) }
  refine codeAny_mono (code_set_new_1 (.ref l) (E := E) (Q₁ := fun ob s1 => ∃ led : Bool, ob = .ref s.heap.objs.size ∧ s1 = { s with heap := s.heap.push (fresh led) }) fun led => ⟨led, rfl, rfl⟩) fun r s1 hr => ?_
  match r, hr with
  | .error e, hr => exact hr
  | .ok .next, hr => exact hr.elim
  | .ok .brk, hr => exact hr.elim
  | .ok .cont, hr => exact hr.elim
  | .ok (.ret ob), hr =>
    obtain ⟨led, rfl, rfl⟩ := hr
    have at0 : (s.heap.push (fresh led)).get? s.heap.objs.size = some (fresh led) := Heap.get?_push_size _ rfl
    have ty : Shared.TypeIs { s with heap := s.heap.push (fresh led) } (.ref s.heap.objs.size) "set" := ⟨_, at0, rfl⟩
    have k6 := PySem.F.called_set.init.lookup
    have k7 := PySem.F.called_set.init.bind (.ref s.heap.objs.size)
    repeat (any_goals (first | assumption | wp_step))
    refine codeAny_mono (codeAny_call_builtin (R := wants (fun r s2 => r = .none ∧ ∃ h2 tk, s2 = { s with heap := h2, toks := tk } ∧ h2.SetOf knd s.heap.objs.size (fun k => decide (k ∈ ks.take its.size)) (dcnt ks its.size) ∧
        (∀ b o, b < s.heap.objs.size → s.heap.get? b = some o → h2.get? b = some o)) E) PySem.F.called_set.init.plain PySem.F.entry_set_init (check_set_init_1 ty ?_)) fun r2 s2 hr2 => ?_
    · obtain ⟨⟨oc, od, ot, os⟩, ho, hc, nl, hdt⟩ := hl
      simp only at hc hdt
      subst hc hdt
      have ho1 : (s.heap.push (fresh led)).get? l = some { cls := .type "list", dict := od, data := .seq its nl, slots := os } := Heap.get?_push_of_some _ ho
      have k8 := PySem.F.sub_list_set
      have k9 := PySem.F.sub_list_frozenset
      have k10 : (Value.type "list" == Value.type "dict") = false := by decide
      have hl1 : (s.heap.push (fresh led)).IsList l its := ⟨_, ho1, rfl, nl, rfl⟩
      unfold Builtin.«set.__init__» noKeywords Builtin.Frozenset.updateFrom
      generalize hPI : pyIter = PI
      wp_walk
      subst hPI
      refine wpAny_pyIter_list hl1 (wpAny_bind (wpAny_runValue ?_))
      have lt : l < s.heap.objs.size := Heap.lt_size ho
      have hd3 : A.in1.in1.in1.handled = none := by simp [hd]
      have sz : (s.heap.push (fresh led)).objs.size = s.heap.objs.size + 1 := Heap.size_push ..
      have ne1 : l ≠ (s.heap.push (fresh led)).objs.size := by rw [sz]; exact Nat.ne_of_lt (Nat.lt_succ_of_lt lt)
      have off : s.heap.objs.size ∉ [(s.heap.push (fresh led)).objs.size, l] := by
        rw [sz]
        simp only [List.mem_cons, List.not_mem_nil, or_false, not_or]
        exact ⟨Nat.ne_of_lt (Nat.lt_succ_self _), Nat.ne_of_gt lt⟩
      refine fillSet ((Walks.list hd3 _ l ne1 its).toS) s.heap.objs.size off ks (fun i v _ pv => item i v pv) few (its.size - 0) 0 _ (by omega) (Nat.zero_le _) ⟨⟨_, Heap.get?_push_size _ rfl, rfl, rfl⟩, (hl1.push _)⟩ ?_ fun s3 mv hS => ?_
      · have at1 : ((s.heap.push (fresh led)).push { cls := .type "list_iterator", data := .fields #[.ref l, .int 0 0] }).get? s.heap.objs.size = some (fresh led) := Heap.get?_push_of_some _ at0
        exact SetOf_congr ((setObjOf_fresh (knd := knd) led).setOf at1 (by unfold scanBound; omega)) (fun _ => by simp) rfl
      · obtain ⟨h3, g3, d3, tk3, os3⟩ := s3
        have e1 : g3 = s.gens := mv.gens
        have e2 : d3 = s.drawn := mv.drawn
        have e3 : os3 = s.os := mv.os
        subst e1 e2 e3
        show wpAny _ _ _ _ _ _
        refine wpAny_pure (show wpAny _ _ (ret Value.none) _ _ _ from wpAny_pure ⟨rfl, h3, tk3, rfl, hS, fun b o hb z => ?_⟩)
        refine mv.heap b o ?_ (Heap.get?_push_of_some _ (Heap.get?_push_of_some _ z))
        simp only [List.mem_cons, List.not_mem_nil, or_false, not_or]
        exact ⟨Nat.ne_of_lt hb, by rw [sz]; exact Nat.ne_of_lt (Nat.lt_succ_of_lt hb)⟩
    · match r2, hr2 with
      | .error e, hr2 => exact hr2
      | .ok .next, hr2 => exact hr2.elim
      | .ok .brk, hr2 => exact hr2.elim
      | .ok .cont, hr2 => exact hr2.elim
      | .ok (.ret r), hr2 =>
        obtain ⟨rfl, h2, tk, rfl, hS, kp⟩ := hr2
        repeat (any_goals (first | assumption | wp_step))
        exact q _ _ hS kp
end
theorem strs_item : ∀ {zs : List Str} {us : List Value}, Vals (zs.map V.str) us → ∀ (i : Nat) (v : Value), us[i]? = some v → ∃ z t, zs[i]? = some z ∧ v = .str z t
  | [], _, .nil, i, v, e => by simp at e
  | z :: zs, _, .cons r t, 0, v, e => by
    obtain ⟨k, rfl⟩ := r
    simp at e
    exact ⟨z, k, by simp, e.symm⟩
  | z :: zs, _, .cons r t, i + 1, v, e => by
    simp only [List.getElem?_cons_succ] at e ⊢
    exact strs_item t i v e
theorem pe_lenSetG {X : Cx} {a : Expr} {ta : TE} {p p2 q pos : Pos} (hc : X.calm = true) (hg : Gl X "len") (hm : X.mg "len" = none) (hg2 : Gl X "set") (hm2 : X.mg "set" = none) (ha : PE X a ta)
    (na : starEach [a] X.env = (false, eval a X.env) :: starEach [] X.env := by rfl) : PE X (.Call (.Name "len" p) [.Call (.Name "set" p2) [a] [] q] [] pos) (tLenSetG X.K ta) := by
  refine ⟨fun pins s σ H Q I h => Call_ (ld_blt I hg hm boot_len (callWith_builtin1 (args_cons (Call_ (ld_blt I hg2 hm2 boot_set (callWith_type1 (args_cons (thn (ha.run pins s σ H _ I h) fun v s1 hv => args_nil ?_) na) na rfl))) rfl) rfl rfl))⟩
  obtain ⟨x, H1, I1, r1, l, zs, rfl, hq, few, q1⟩ := hv
  cases r1
  obtain ⟨its, rv, pl, _⟩ := I1.list hq
  have len : its.toArray.size = zs.length := by rw [List.size_toArray, ← rv.length, List.length_map]
  refine setOfList (knd := PySem.strKind X.prog X.w) zs (I1.ok.hd hc) pl.isList (fun i v hv => ?_) (by rw [len]; unfold scanBound; omega) fun h2 tk hS kp => args_nil ?_
  · obtain ⟨z, t, hz, rfl⟩ := strs_item rv i v (by simpa using hv)
    exact ⟨z, hz, strKind_is _ _ _ _, rfl⟩
  · rw [len] at hS
    obtain ⟨o, es, ep, t, ho, hex, hdt, _, _, _, fit, hn⟩ := hS
    have J : Inv X pins σ H1 { s1 with heap := h2, toks := tk } := I1.kept fun b o e => kp b o (Heap.lt_size e) e
    exact call_len_set ho hex hdt fit (by rw [hn]; have := dcnt_le (ks := zs) zs.length; omega) ⟨.int (dcnt zs zs.length : Nat), H1, J.tok _, ⟨_, by rw [hn]⟩, q1⟩
end Vs

namespace Pm
def subT : List (String × List String × List String) := [("Fit", ["Fit"], []),
  ("Any", ["Any", "Fit"], []),
  ("Named", ["Named", "Fit"], ["names"]),
  ("Kind", ["Kind", "Named", "Fit"], ["names"]),
  ("Place", ["Place", "Named", "Fit"], ["names"]),
  ("Least", ["Least", "Fit"], ["weight"]),
  ("Not", ["Not", "Fit"], ["fit"]),
  ("Several", ["Several", "Fit"], ["fits"]),
  ("Both", ["Both", "Several", "Fit"], ["fits"]),
  ("Either", ["Either", "Several", "Fit"], ["fits"]),
  ("Words", ["Words"], ["some", "at"])]
def excT : List (String × List String × List String) := [("BellError", ["BellError"], []),
  ("NoClock", ["NoClock", "BellError"], []),
  ("NoFit", ["NoFit", "BellError"], []),
  ("NoWish", ["NoWish", "BellError"], []),
  ("NoText", ["NoText", "BellError"], ["line"])]
end Pm
/-! # what a program's text computes, in plain Lean: values, a store of what may change, the constructs -/
namespace Pm

abbrev Tx := List Nat
def tx (s : String) : Tx := s.toList.map Char.toNat
theorem tx_inj {a b : String} : tx a = tx b ↔ a = b := by
  constructor
  · intro h
    have h2 : a.toList = b.toList := by
      unfold tx at h
      exact List.map_inj_right (fun x y e => Char.toNat_inj.mp e) |>.mp h
    exact String.toList_inj.mp h2
  · intro h; rw [h]
inductive Dx where
  | non | bl (b : Bool) | int (i : Int) | str (s : Tx)
  | tup (xs : List Dx) | lst (xs : List Dx) | fro (xs : List Dx) | dct
  | obj (C : String) (fs : List (String × Dx))
  | cell (n : Nat) | cls (C : String) | ty (s : String)
abbrev Fs := List (String × Dx)
inductive Cl where
  | lst (xs : List Dx) | obj (C : String) (fs : Fs)
abbrev Sto := List Cl
structure En where
  sl : List (Option Dx)
  me : Fs
  /-- what the suite holds -/
  ex : Option (String × Fs)
/-- what comes of an expression -/
inductive R (α : Type) where
  | ok (v : α) (s : Sto) | exc (C : String) (fs : Fs) (s : Sto) | stuck
/-- what comes of a statement -/
inductive S where
  | nx (e : En) (s : Sto) | rt (v : Dx) (s : Sto) | bk (e : En) (s : Sto) | ct (e : En) (s : Sto) | exc (C : String) (fs : Fs) (e : En) (s : Sto) | stuck
def R.bind {α β : Type} : R α → (α → Sto → R β) → R β
  | .ok v s, k => k v s
  | .exc C f s, _ => .exc C f s
  | .stuck, _ => .stuck
def R.s {α : Type} : R α → En → (α → Sto → S) → S
  | .ok v s, _, k => k v s
  | .exc C f s, e, _ => .exc C f e s
  | .stuck, _, _ => .stuck
/-- no exception may leave -/
def R.calm {α : Type} : R α → R α
  | .exc _ _ _ => .stuck
  | r => r
@[simp] theorem bind_ok {α β : Type} (v : α) (s : Sto) (k : α → Sto → R β) : (R.ok v s).bind k = k v s := rfl
@[simp] theorem bind_exc {α β : Type} (C : String) (f : Fs) (s : Sto) (k : α → Sto → R β) : (R.exc C f s).bind k = .exc C f s := rfl
@[simp] theorem bind_stuck {α β : Type} (k : α → Sto → R β) : (R.stuck).bind k = .stuck := rfl
@[simp] theorem s_ok {α : Type} (v : α) (s : Sto) (e : En) (k : α → Sto → S) : (R.ok v s).s e k = k v s := rfl
@[simp] theorem s_exc {α : Type} (C : String) (f : Fs) (s : Sto) (e : En) (k : α → Sto → S) : (R.exc C f s).s e k = .exc C f e s := rfl
@[simp] theorem s_stuck {α : Type} (e : En) (k : α → Sto → S) : (R.stuck).s e k = .stuck := rfl
@[simp] theorem calm_ok {α : Type} (v : α) (s : Sto) : (R.ok v s).calm = .ok v s := rfl
@[simp] theorem calm_exc {α : Type} (C : String) (f : Fs) (s : Sto) : (R.exc C f s : R α).calm = .stuck := rfl
@[simp] theorem calm_stuck {α : Type} : (R.stuck : R α).calm = .stuck := rfl
abbrev ME := En → Sto → R Dx
abbrev MA := En → Sto → R (List Dx)
abbrev MT := En → Sto → R Bool
abbrev MS := En → Sto → S
abbrev MF := List Dx → Sto → R Dx
abbrev MI := List Dx → Sto → R Fs
/-! ## expressions -/
def eVar (i : Nat) : ME := fun e s => match e.sl[i]? with
  | some (some d) => .ok d s
  | _ => .stuck
@[simp] theorem eVar_at (i : Nat) (e : En) (s : Sto) : eVar i e s = match e.sl[i]? with
  | some (some d) => .ok d s
  | _ => .stuck := rfl
def eC (d : Dx) : ME := fun _ s => .ok d s
@[simp] theorem eC_at (d : Dx) (e0 : En) (s : Sto) : eC d e0 s = .ok d s := rfl
abbrev O1 := Dx → Sto → R Dx
abbrev O2 := Dx → Dx → Sto → R Dx
def eUn (f : O1) (a : ME) : ME := fun e s => (a e s).bind fun x s1 => f x s1
@[simp] theorem eUn_at (f : O1) (a : ME) (e : En) (s : Sto) : eUn f a e s = (a e s).bind fun x s1 => f x s1 := rfl
def eOp (f : O2) (a b : ME) : ME := fun e s => (a e s).bind fun x s1 => (b e s1).bind fun y s2 => f x y s2
@[simp] theorem eOp_at (f : O2) (a b : ME) (e : En) (s : Sto) : eOp f a b e s = (a e s).bind fun x s1 => (b e s1).bind fun y s2 => f x y s2 := rfl
def aNil  : MA := fun _ s => .ok [] s
@[simp] theorem aNil_at  (e0 : En) (s : Sto) : aNil  e0 s = .ok [] s := rfl
def aCons (a : ME) (as : MA) : MA := fun e s => (a e s).bind fun x s1 => (as e s1).bind fun xs s2 => .ok (x :: xs) s2
@[simp] theorem aCons_at (a : ME) (as : MA) (e : En) (s : Sto) : aCons a as e s = (a e s).bind fun x s1 => (as e s1).bind fun xs s2 => .ok (x :: xs) s2 := rfl
def eCall (f : MF) (as : MA) : ME := fun e s => (as e s).bind fun ds s1 => f ds s1
@[simp] theorem eCall_at (f : MF) (as : MA) (e : En) (s : Sto) : eCall f as e s = (as e s).bind fun ds s1 => f ds s1 := rfl
/-- defaults stand behind the arguments -/
def eCallD (f : MF) (dv : List Dx) (as : MA) : ME := fun e s => (as e s).bind fun ds s1 => f (ds ++ dv) s1
@[simp] theorem eCallD_at (f : MF) (dv : List Dx) (as : MA) (e : En) (s : Sto) : eCallD f dv as e s = (as e s).bind fun ds s1 => f (ds ++ dv) s1 := rfl
def eAnd (a b : ME) : ME := fun e s => (a e s).bind fun x s1 => match x with
  | .bl true => b e s1
  | .bl false => .ok (.bl false) s1
  | _ => .stuck
@[simp] theorem eAnd_at (a b : ME) (e : En) (s : Sto) : eAnd a b e s = (a e s).bind fun x s1 => match x with
  | .bl true => b e s1
  | .bl false => .ok (.bl false) s1
  | _ => .stuck := rfl
def eOr (a b : ME) : ME := fun e s => (a e s).bind fun x s1 => match x with
  | .bl true => .ok (.bl true) s1
  | .bl false => b e s1
  | _ => .stuck
@[simp] theorem eOr_at (a b : ME) (e : En) (s : Sto) : eOr a b e s = (a e s).bind fun x s1 => match x with
  | .bl true => .ok (.bl true) s1
  | .bl false => b e s1
  | _ => .stuck := rfl
def eNot (a : ME) : ME := fun e s => (a e s).bind fun x s1 => match x with
  | .bl b => .ok (.bl !b) s1
  | _ => .stuck
@[simp] theorem eNot_at (a : ME) (e : En) (s : Sto) : eNot a e s = (a e s).bind fun x s1 => match x with
  | .bl b => .ok (.bl !b) s1
  | _ => .stuck := rfl
def eIf (t : MT) (a b : ME) : ME := fun e s => (t e s).bind fun c s1 => if c = true then a e s1 else b e s1
def R.eif : R Bool → En → ME → ME → R Dx
  | .ok c s, e, a, b => if c = true then a e s else b e s
  | .exc C f s, _, _, _ => .exc C f s
  | .stuck, _, _, _ => .stuck
@[simp] theorem eif_ok (c : Bool) (s : Sto) (e : En) (a b : ME) : R.eif (.ok c s) e a b = if c = true then a e s else b e s := rfl
@[simp] theorem eif_exc (C : String) (f : Fs) (s : Sto) (e : En) (a b : ME) : R.eif (.exc C f s) e a b = .exc C f s := rfl
@[simp] theorem eIf_at (t : MT) (a b : ME) (e : En) (s : Sto) : eIf t a b e s = R.eif (t e s) e a b := by unfold eIf; cases t e s <;> rfl
def eChain (f g : O2) (a b c : ME) : ME := fun e s => (a e s).bind fun x s1 => (b e s1).bind fun y s2 => (f x y s2).bind fun z s3 => match z with
  | .bl true => (c e s3).bind fun w s4 => g y w s4
  | .bl false => .ok (.bl false) s3
  | _ => .stuck
@[simp] theorem eChain_at (f g : O2) (a b c : ME) (e : En) (s : Sto) : eChain f g a b c e s = (a e s).bind fun x s1 => (b e s1).bind fun y s2 => (f x y s2).bind fun z s3 => match z with
  | .bl true => (c e s3).bind fun w s4 => g y w s4
  | .bl false => .ok (.bl false) s3
  | _ => .stuck := rfl
/-- tests -/
def uV (a : ME) : MT := fun e s => (a e s).bind fun x s1 => match x with
  | .bl b => .ok b s1
  | _ => .stuck
@[simp] theorem uV_at (a : ME) (e : En) (s : Sto) : uV a e s = (a e s).bind fun x s1 => match x with
  | .bl b => .ok b s1
  | _ => .stuck := rfl
def uAnd (a b : MT) : MT := fun e s => (a e s).bind fun c s1 => if c = true then b e s1 else .ok false s1
@[simp] theorem uAnd_at (a b : MT) (e : En) (s : Sto) : uAnd a b e s = (a e s).bind fun c s1 => if c = true then b e s1 else .ok false s1 := rfl
def uOr (a b : MT) : MT := fun e s => (a e s).bind fun c s1 => if c = true then .ok true s1 else b e s1
@[simp] theorem uOr_at (a b : MT) (e : En) (s : Sto) : uOr a b e s = (a e s).bind fun c s1 => if c = true then .ok true s1 else b e s1 := rfl
def uNot (a : MT) : MT := fun e s => (a e s).bind fun c s1 => .ok (!c) s1
@[simp] theorem uNot_at (a : MT) (e : En) (s : Sto) : uNot a e s = (a e s).bind fun c s1 => .ok (!c) s1 := rfl
def uYes  : MT := fun _ s => .ok true s
@[simp] theorem uYes_at  (e0 : En) (s : Sto) : uYes  e0 s = .ok true s := rfl
/-! ## what stands in the store -/
def asL (s : Sto) : Dx → Option (List Dx)
  | .lst xs => some xs
  | .fro xs => some xs
  | .cell n => match s[n]? with
    | some (.lst xs) => some xs
    | _ => none
  | _ => none
/-- a list that was laid (no script) -/
def asM (s : Sto) : Dx → Option (List Dx)
  | .lst xs => some xs
  | .cell n => match s[n]? with
    | some (.lst xs) => some xs
    | _ => none
  | _ => none
def asQ (s : Sto) : Dx → Option (List Dx)
  | .tup xs => some xs
  | d => asL s d
def asO (s : Sto) : Dx → Option (String × Fs)
  | .obj C fs => some (C, fs)
  | .cell n => match s[n]? with
    | some (.obj C fs) => some (C, fs)
    | _ => none
  | _ => none
abbrev most : Nat := 1000000
def truD (s : Sto) : Dx → Option Bool
  | .bl b => some b
  | .non => some false
  | .int i => some (i != 0)
  | .str z => if z.length ≤ most then some (!z.isEmpty) else none
  | d => (asQ s d).map fun xs => !xs.isEmpty
/-- a test of a value that is no bool -/
def uTru (a : ME) : MT := fun e s => (a e s).bind fun x s1 => match truD s1 x with
  | some b => .ok b s1
  | none => .stuck
@[simp] theorem uTru_at (a : ME) (e : En) (s : Sto) : uTru a e s = (a e s).bind fun x s1 => match truD s1 x with
  | some b => .ok b s1
  | none => .stuck := rfl
/-- a new list, object: as it is for good (a tree), or a cell of the store -/
@[simp] def newL (c : Bool) (xs : List Dx) (s : Sto) : R Dx := if c then .ok (.cell s.length) (s ++ [.lst xs]) else .ok (.lst xs) s
def eLst (c : Bool) (as : MA) : ME := fun e s => (as e s).bind fun xs s1 => if xs.length ≤ most then newL c xs s1 else .stuck
@[simp] theorem eLst_at (c : Bool) (as : MA) (e : En) (s : Sto) : eLst c as e s = (as e s).bind fun xs s1 => if xs.length ≤ most then newL c xs s1 else .stuck := rfl
def eTup (as : MA) : ME := fun e s => (as e s).bind fun xs s1 => if xs.length ≤ most then .ok (.tup xs) s1 else .stuck
@[simp] theorem eTup_at (as : MA) (e : En) (s : Sto) : eTup as e s = (as e s).bind fun xs s1 => if xs.length ≤ most then .ok (.tup xs) s1 else .stuck := rfl
/-! ## operators -/
def addD  : O2 := fun x y s => match x, y with
  | .int i, .int j => .ok (.int (i + j)) s
  | .str a, .str b => if a.length + b.length ≤ most then .ok (.str (a ++ b)) s else .stuck
  | .tup (x :: xs), .tup (y :: ys) => if (x :: xs).length + (y :: ys).length ≤ most then .ok (.tup ((x :: xs) ++ (y :: ys))) s else .stuck
  | .tup (x :: xs), .tup [] => if xs.length + 1 ≤ most then .ok (.tup (x :: xs)) s else .stuck
  | x, y => match asM s x, asM s y with
    | some xs, some ys => if xs.length + ys.length ≤ most then .ok (.lst (xs ++ ys)) s else .stuck
    | _, _ => .stuck
theorem addD_at  (x : Dx) (y : Dx) (s : Sto) : addD  x y s = match x, y with
  | .int i, .int j => .ok (.int (i + j)) s
  | .str a, .str b => if a.length + b.length ≤ most then .ok (.str (a ++ b)) s else .stuck
  | .tup (x :: xs), .tup (y :: ys) => if (x :: xs).length + (y :: ys).length ≤ most then .ok (.tup ((x :: xs) ++ (y :: ys))) s else .stuck
  | .tup (x :: xs), .tup [] => if xs.length + 1 ≤ most then .ok (.tup (x :: xs)) s else .stuck
  | x, y => match asM s x, asM s y with
    | some xs, some ys => if xs.length + ys.length ≤ most then .ok (.lst (xs ++ ys)) s else .stuck
    | _, _ => .stuck := rfl
/-- lists that will change -/
def addC : O2 := fun x y s => match asM s x, asM s y with
  | some xs, some ys => if xs.length + ys.length ≤ most then .ok (.cell s.length) (s ++ [.lst (xs ++ ys)]) else .stuck
  | _, _ => .stuck
@[simp] theorem addC_at (x y : Dx) (s : Sto) : addC x y s = match asM s x, asM s y with
  | some xs, some ys => if xs.length + ys.length ≤ most then .ok (.cell s.length) (s ++ [.lst (xs ++ ys)]) else .stuck
  | _, _ => .stuck := rfl
def mulC : O2 := fun x y s => match x, y with
  | .lst xs, .int j => if 0 ≤ j ∧ j ≤ 10000 ∧ xs.length ≤ 100 then .ok (.cell s.length) (s ++ [.lst (List.replicate j.toNat xs).flatten]) else .stuck
  | _, _ => .stuck
@[simp] theorem mulC_li (xs : List Dx) (j : Int) (s : Sto) : mulC (.lst xs) (.int j) s = if 0 ≤ j ∧ j ≤ 10000 ∧ xs.length ≤ 100 then .ok (.cell s.length) (s ++ [.lst (List.replicate j.toNat xs).flatten]) else .stuck := rfl
def addI  : O2 := fun x y s => match x, y with
  | .int i, .int j => .ok (.int (i + j)) s
  | _, _ => .stuck
theorem addI_at  (x : Dx) (y : Dx) (s : Sto) : addI  x y s = match x, y with
  | .int i, .int j => .ok (.int (i + j)) s
  | _, _ => .stuck := rfl
def subD  : O2 := fun x y s => match x, y with
  | .int i, .int j => .ok (.int (i - j)) s
  | _, _ => .stuck
theorem subD_at  (x : Dx) (y : Dx) (s : Sto) : subD  x y s = match x, y with
  | .int i, .int j => .ok (.int (i - j)) s
  | _, _ => .stuck := rfl
abbrev B64 (i : Int) : Prop := -(2 ^ 64) < i ∧ i < 2 ^ 64
def mulD  : O2 := fun x y s => match x, y with
  | .int i, .int j => if B64 i ∨ B64 j then .ok (.int (i * j)) s else .stuck
  | .str a, .int j => if 0 ≤ j ∧ j ≤ 100 ∧ a.length ≤ 100 then .ok (.str (List.replicate j.toNat a).flatten) s else .stuck
  | .lst xs, .int j => if 0 ≤ j ∧ j ≤ 10000 ∧ xs.length ≤ 100 then .ok (.lst (List.replicate j.toNat xs).flatten) s else .stuck
  | _, _ => .stuck
theorem mulD_at  (x : Dx) (y : Dx) (s : Sto) : mulD  x y s = match x, y with
  | .int i, .int j => if B64 i ∨ B64 j then .ok (.int (i * j)) s else .stuck
  | .str a, .int j => if 0 ≤ j ∧ j ≤ 100 ∧ a.length ≤ 100 then .ok (.str (List.replicate j.toNat a).flatten) s else .stuck
  | .lst xs, .int j => if 0 ≤ j ∧ j ≤ 10000 ∧ xs.length ≤ 100 then .ok (.lst (List.replicate j.toNat xs).flatten) s else .stuck
  | _, _ => .stuck := rfl
def modD  : O2 := fun x y s => match x, y with
  | .int i, .int j => if 0 < j then .ok (.int (i % j)) s else .stuck
  | _, _ => .stuck
theorem modD_at  (x : Dx) (y : Dx) (s : Sto) : modD  x y s = match x, y with
  | .int i, .int j => if 0 < j then .ok (.int (i % j)) s else .stuck
  | _, _ => .stuck := rfl
def divD  : O2 := fun x y s => match x, y with
  | .int i, .int j => if 0 < j ∧ j < 2 ^ 64 then .ok (.int (i / j)) s else .stuck
  | _, _ => .stuck
theorem divD_at  (x : Dx) (y : Dx) (s : Sto) : divD  x y s = match x, y with
  | .int i, .int j => if 0 < j ∧ j < 2 ^ 64 then .ok (.int (i / j)) s else .stuck
  | _, _ => .stuck := rfl
def negD  : O1 := fun x s => match x with
  | .int i => .ok (.int (-i)) s
  | _ => .stuck
theorem negD_at  (x : Dx) (s : Sto) : negD  x s = match x with
  | .int i => .ok (.int (-i)) s
  | _ => .stuck := rfl
def cmpD (p : Int → Int → Bool) : O2 := fun x y s => match x, y with
  | .int i, .int j => .ok (.bl (p i j)) s
  | _, _ => .stuck
theorem cmpD_at (p : Int → Int → Bool) (x : Dx) (y : Dx) (s : Sto) : cmpD p x y s = match x, y with
  | .int i, .int j => .ok (.bl (p i j)) s
  | _, _ => .stuck := rfl
abbrev ltD : O2 := cmpD fun i j => decide (i < j)
abbrev leD : O2 := cmpD fun i j => decide (i ≤ j)
abbrev gtD : O2 := cmpD fun i j => decide (j < i)
abbrev geD : O2 := cmpD fun i j => decide (j ≤ i)
/-! == of data -/
mutual
def eqv : Dx → Dx → Bool
  | .non, .non => true
  | .bl a, .bl b => a == b
  | .bl a, .int j => (if a then 1 else 0) == j
  | .int i, .bl b => i == (if b then 1 else 0)
  | .int i, .int j => decide (i = j)
  | .str x, .str y => decide (x = y)
  | .lst xs, .lst ys => eqvL xs ys
  | .lst xs, .fro ys => eqvL xs ys
  | .fro xs, .lst ys => eqvL xs ys
  | .fro xs, .fro ys => eqvL xs ys
  | .tup xs, .tup ys => eqvL xs ys
  | _, _ => false
def eqvL : List Dx → List Dx → Bool
  | [], [] => true
  | x :: xs, y :: ys => eqv x y && eqvL xs ys
  | _, _ => false
end
/-- data of so many lists in one another -/
def shp : Nat → Dx → Bool
  | _, .non => true
  | _, .bl _ => true
  | _, .int _ => true
  | _, .str _ => true
  | n + 1, .tup xs => xs.all (shp n)
  | n + 1, .lst xs => xs.all (shp n)
  | n + 1, .fro xs => xs.all (shp n)
  | _, _ => false
def res (s : Sto) : Dx → Dx
  | .cell n => match s[n]? with
    | some (.lst xs) => .lst xs
    | _ => .cell n
  | d => d
def eqD  : O2 := fun x y s => if (shp 40 (res s x) && shp 40 (res s y)) = true then .ok (.bl (eqv (res s x) (res s y))) s else .stuck
theorem eqD_at  (x : Dx) (y : Dx) (s : Sto) : eqD  x y s = if (shp 40 (res s x) && shp 40 (res s y)) = true then .ok (.bl (eqv (res s x) (res s y))) s else .stuck := rfl
def neD  : O2 := fun x y s => if (shp 40 (res s x) && shp 40 (res s y)) = true then .ok (.bl (!eqv (res s x) (res s y))) s else .stuck
theorem neD_at  (x : Dx) (y : Dx) (s : Sto) : neD  x y s = if (shp 40 (res s x) && shp 40 (res s y)) = true then .ok (.bl (!eqv (res s x) (res s y))) s else .stuck := rfl
/-- x == [], x != []: of lists of whatever -/
def eqE : O2 := fun x y s => match asL s x, asL s y with
  | some xs, some [] => .ok (.bl xs.isEmpty) s
  | _, _ => eqD x y s
def neE : O2 := fun x y s => match asL s x, asL s y with
  | some xs, some [] => .ok (.bl !xs.isEmpty) s
  | _, _ => neD x y s
@[simp] theorem eqE_nil (x : Dx) (s : Sto) : eqE x (.lst []) s = match asL s x with
  | some xs => .ok (.bl xs.isEmpty) s
  | none => eqD x (.lst []) s := by
  unfold eqE
  cases asL s x <;> rfl
@[simp] theorem neE_nil (x : Dx) (s : Sto) : neE x (.lst []) s = match asL s x with
  | some xs => .ok (.bl !xs.isEmpty) s
  | none => neD x (.lst []) s := by
  unfold neE
  cases asL s x <;> rfl
def isND  : O2 := fun x y s => match x, y with
  | .non, .non => .ok (.bl true) s
  | _, .non => .ok (.bl false) s
  | _, _ => .stuck
theorem isND_at  (x : Dx) (y : Dx) (s : Sto) : isND  x y s = match x, y with
  | .non, .non => .ok (.bl true) s
  | _, .non => .ok (.bl false) s
  | _, _ => .stuck := rfl
def notND  : O2 := fun x y s => match x, y with
  | .non, .non => .ok (.bl false) s
  | _, .non => .ok (.bl true) s
  | _, _ => .stuck
theorem notND_at  (x : Dx) (y : Dx) (s : Sto) : notND  x y s = match x, y with
  | .non, .non => .ok (.bl false) s
  | _, .non => .ok (.bl true) s
  | _, _ => .stuck := rfl
def isBD  : O2 := fun x y s => match x, y with
  | .bl a, .bl b => .ok (.bl (a == b)) s
  | _, _ => .stuck
theorem isBD_at  (x : Dx) (y : Dx) (s : Sto) : isBD  x y s = match x, y with
  | .bl a, .bl b => .ok (.bl (a == b)) s
  | _, _ => .stuck := rfl
def notBD  : O2 := fun x y s => match x, y with
  | .bl a, .bl b => .ok (.bl (!(a == b))) s
  | _, _ => .stuck
@[simp] theorem notBD_bb (a b : Bool) (s : Sto) : notBD (.bl a) (.bl b) s = .ok (.bl (!(a == b))) s := rfl
def flat : Dx → Bool
  | .non => true
  | .bl _ => true
  | .int _ => true
  | .str _ => true
  | _ => false
def inD (neg : Bool) : O2 := fun x y s => match y with
  | .str z => match x with
    | .str [c] => .ok (.bl (neg != decide (c ∈ z))) s
    | _ => .stuck
  | y => match asQ s y with
    | some ys => if (flat x && ys.all flat) = true then .ok (.bl (neg != ys.any fun y => eqv y x)) s else .stuck
    | none => .stuck
theorem inD_at (neg : Bool) (x : Dx) (y : Dx) (s : Sto) : inD neg x y s = match y with
  | .str z => match x with
    | .str [c] => .ok (.bl (neg != decide (c ∈ z))) s
    | _ => .stuck
  | y => match asQ s y with
    | some ys => if (flat x && ys.all flat) = true then .ok (.bl (neg != ys.any fun y => eqv y x)) s else .stuck
    | none => .stuck := rfl
/-- a place of a list, from behind too -/
def pyIx {α : Type} (xs : List α) (i : Int) : Option α := if 0 ≤ i then xs[i.toNat]? else if -(xs.length : Int) ≤ i then xs[(i + xs.length).toNat]? else none
def sIx (n d : Nat) : Option Int → Nat
  | none => d
  | some v => if v < 0 then (v + (n : Int)).toNat else min v.toNat n
def cut {α : Type} (xs : List α) (lo hi : Option Int) : List α := (xs.drop (sIx xs.length 0 lo)).take (sIx xs.length xs.length hi - sIx xs.length 0 lo)
def ixD  : O2 := fun x y s => match y with
  | .int i => match x with
    | .str z => match pyIx z i with
      | some c => if z.length ≤ most then .ok (.str [c]) s else .stuck
      | none => .stuck
    | x => match asQ s x with
      | some xs => match pyIx xs i with
        | some d => .ok d s
        | none => .stuck
      | none => .stuck
  | _ => .stuck
theorem ixD_at  (x : Dx) (y : Dx) (s : Sto) : ixD  x y s = match y with
  | .int i => match x with
    | .str z => match pyIx z i with
      | some c => if z.length ≤ most then .ok (.str [c]) s else .stuck
      | none => .stuck
    | x => match asQ s x with
      | some xs => match pyIx xs i with
        | some d => .ok d s
        | none => .stuck
      | none => .stuck
  | _ => .stuck := rfl
/-- a slice's end -/
abbrev MO := En → Sto → R (Option Int)
def oNone  : MO := fun _ s => .ok none s
@[simp] theorem oNone_at  (e0 : En) (s : Sto) : oNone  e0 s = .ok none s := rfl
def oSome (a : ME) : MO := fun e s => (a e s).bind fun x s1 => match x with
  | .int i => .ok (some i) s1
  | _ => .stuck
@[simp] theorem oSome_at (a : ME) (e : En) (s : Sto) : oSome a e s = (a e s).bind fun x s1 => match x with
  | .int i => .ok (some i) s1
  | _ => .stuck := rfl
def slD  : Dx → Option Int → Option Int → Sto → R Dx := fun x lo hi s => match x with
  | .str z => if z.length ≤ most then .ok (.str (cut z lo hi)) s else .stuck
  | .tup xs => if sIx xs.length 0 lo = 0 ∧ sIx xs.length xs.length hi = xs.length then .stuck else .ok (.tup (cut xs lo hi)) s
  | x => match asL s x with
    | some xs => .ok (.lst (cut xs lo hi)) s
    | none => .stuck
theorem slD_at  (x : Dx) (lo : Option Int) (hi : Option Int) (s : Sto) : slD  x lo hi s = match x with
  | .str z => if z.length ≤ most then .ok (.str (cut z lo hi)) s else .stuck
  | .tup xs => if sIx xs.length 0 lo = 0 ∧ sIx xs.length xs.length hi = xs.length then .stuck else .ok (.tup (cut xs lo hi)) s
  | x => match asL s x with
    | some xs => .ok (.lst (cut xs lo hi)) s
    | none => .stuck := rfl
def slC : Dx → Option Int → Option Int → Sto → R Dx := fun x lo hi s => match asL s x with
  | some xs => .ok (.cell s.length) (s ++ [.lst (cut xs lo hi)])
  | none => .stuck
@[simp] theorem slC_at (x : Dx) (lo hi : Option Int) (s : Sto) : slC x lo hi s = match asL s x with
  | some xs => .ok (.cell s.length) (s ++ [.lst (cut xs lo hi)])
  | none => .stuck := rfl
def eSlC (a : ME) (lo hi : MO) : ME := fun e s => (a e s).bind fun x s1 => (lo e s1).bind fun l s2 => (hi e s2).bind fun h s3 => slC x l h s3
@[simp] theorem eSlC_at (a : ME) (lo hi : MO) (e : En) (s : Sto) : eSlC a lo hi e s = (a e s).bind fun x s1 => (lo e s1).bind fun l s2 => (hi e s2).bind fun h s3 => slC x l h s3 := rfl
/-- xs[::-1] -/
def revD : O1 := fun x s => match asL s x with
  | some xs => .ok (.lst xs.reverse) s
  | none => .stuck
@[simp] theorem revD_at (x : Dx) (s : Sto) : revD x s = match asL s x with
  | some xs => .ok (.lst xs.reverse) s
  | none => .stuck := rfl
def eSl (a : ME) (lo hi : MO) : ME := fun e s => (a e s).bind fun x s1 => (lo e s1).bind fun l s2 => (hi e s2).bind fun h s3 => slD x l h s3
@[simp] theorem eSl_at (a : ME) (lo hi : MO) (e : En) (s : Sto) : eSl a lo hi e s = (a e s).bind fun x s1 => (lo e s1).bind fun l s2 => (hi e s2).bind fun h s3 => slD x l h s3 := rfl
/-! ## built-ins -/
def lenD  : MF := fun ds s => match ds with
  | [.str z] => if z.length ≤ most then .ok (.int z.length) s else .stuck
  | [d] => match asQ s d with
    | some xs => .ok (.int xs.length) s
    | none => .stuck
  | _ => .stuck
theorem lenD_at  (ds : List Dx) (s : Sto) : lenD  ds s = match ds with
  | [.str z] => if z.length ≤ most then .ok (.int z.length) s else .stuck
  | [d] => match asQ s d with
    | some xs => .ok (.int xs.length) s
    | none => .stuck
  | _ => .stuck := rfl
def min2D  : MF := fun ds s => match ds with
  | [.int i, .int j] => .ok (.int (if j < i then j else i)) s
  | _ => .stuck
theorem min2D_at  (ds : List Dx) (s : Sto) : min2D  ds s = match ds with
  | [.int i, .int j] => .ok (.int (if j < i then j else i)) s
  | _ => .stuck := rfl
def max2D  : MF := fun ds s => match ds with
  | [.int i, .int j] => .ok (.int (if i < j then j else i)) s
  | _ => .stuck
theorem max2D_at  (ds : List Dx) (s : Sto) : max2D  ds s = match ds with
  | [.int i, .int j] => .ok (.int (if i < j then j else i)) s
  | _ => .stuck := rfl
def divmodD  : MF := fun ds s => match ds with
  | [.int i, .int j] => if 0 < j ∧ j < 2 ^ 30 then .ok (.tup [.int (i / j), .int (i % j)]) s else .stuck
  | _ => .stuck
theorem divmodD_at  (ds : List Dx) (s : Sto) : divmodD  ds s = match ds with
  | [.int i, .int j] => if 0 < j ∧ j < 2 ^ 30 then .ok (.tup [.int (i / j), .int (i % j)]) s else .stuck
  | _ => .stuck := rfl
def toIntD  : MF := fun ds s => match ds with
  | [.int i] => .ok (.int i) s
  | [.bl b] => .ok (.int (if b then 1 else 0)) s
  | _ => .stuck
theorem toIntD_at  (ds : List Dx) (s : Sto) : toIntD  ds s = match ds with
  | [.int i] => .ok (.int i) s
  | [.bl b] => .ok (.int (if b then 1 else 0)) s
  | _ => .stuck := rfl
/-- the figures of a number -/
def txI (i : Int) : Tx := tx (toString i)
def strD  : MF := fun ds s => match ds with
  | [.int i] => if -(10 ^ 100) ≤ i ∧ i ≤ 10 ^ 100 then .ok (.str (txI i)) s else .stuck
  | _ => .stuck
theorem strD_at  (ds : List Dx) (s : Sto) : strD  ds s = match ds with
  | [.int i] => if -(10 ^ 100) ≤ i ∧ i ≤ 10 ^ 100 then .ok (.str (txI i)) s else .stuck
  | _ => .stuck := rfl
@[simp] def dBools : List Dx → Option (List Bool)
  | [] => some []
  | .bl b :: xs => (dBools xs).map fun l => b :: l
  | _ => none
@[simp] def dInts : List Dx → Option (List Int)
  | [] => some []
  | .int b :: xs => (dInts xs).map fun l => b :: l
  | _ => none
@[simp] def dStrs : List Dx → Option (List Tx)
  | [] => some []
  | .str b :: xs => (dStrs xs).map fun l => b :: l
  | _ => none
def allD  : MF := fun ds s => match ds with
  | [d] => match (asL s d).bind dBools with
    | some l => .ok (.bl (l.all id)) s
    | none => .stuck
  | _ => .stuck
theorem allD_at  (ds : List Dx) (s : Sto) : allD  ds s = match ds with
  | [d] => match (asL s d).bind dBools with
    | some l => .ok (.bl (l.all id)) s
    | none => .stuck
  | _ => .stuck := rfl
def anyD  : MF := fun ds s => match ds with
  | [d] => match (asL s d).bind dBools with
    | some l => .ok (.bl (l.any id)) s
    | none => .stuck
  | _ => .stuck
theorem anyD_at  (ds : List Dx) (s : Sto) : anyD  ds s = match ds with
  | [d] => match (asL s d).bind dBools with
    | some l => .ok (.bl (l.any id)) s
    | none => .stuck
  | _ => .stuck := rfl
def sumD  : MF := fun ds s => match ds with
  | [d] => match (asL s d).bind dInts with
    | some l => .ok (.int l.sum) s
    | none => .stuck
  | _ => .stuck
theorem sumD_at  (ds : List Dx) (s : Sto) : sumD  ds s = match ds with
  | [d] => match (asL s d).bind dInts with
    | some l => .ok (.int l.sum) s
    | none => .stuck
  | _ => .stuck := rfl
def leastOf (i : Int) : List Int → Int
  | [] => i
  | j :: l => leastOf (if j < i then j else i) l
def minD  : MF := fun ds s => match ds with
  | [d] => match (asL s d).bind dInts with
    | some (i :: l) => .ok (.int (leastOf i l)) s
    | _ => .stuck
  | _ => .stuck
theorem minD_at  (ds : List Dx) (s : Sto) : minD  ds s = match ds with
  | [d] => match (asL s d).bind dInts with
    | some (i :: l) => .ok (.int (leastOf i l)) s
    | _ => .stuck
  | _ => .stuck := rfl
def listD (c : Bool) : MF := fun ds s => match ds with
  | [d] => match asQ s d with
    | some xs => newL c xs s
    | none => .stuck
  | _ => .stuck
theorem listD_at (c : Bool) (ds : List Dx) (s : Sto) : listD c ds s = match ds with
  | [d] => match asQ s d with
    | some xs => newL c xs s
    | none => .stuck
  | _ => .stuck := rfl
def tupD  : MF := fun ds s => match ds with
  | [.tup xs] => .ok (.tup xs) s
  | [d] => match asL s d with
    | some xs => .ok (.tup xs) s
    | none => .stuck
  | _ => .stuck
theorem tupD_at  (ds : List Dx) (s : Sto) : tupD  ds s = match ds with
  | [.tup xs] => .ok (.tup xs) s
  | [d] => match asL s d with
    | some xs => .ok (.tup xs) s
    | none => .stuck
  | _ => .stuck := rfl
/-- the number of unlike texts of a list -/
def cntU (ks : List Tx) : Nat → Nat
  | 0 => 0
  | i + 1 => match ks[i]? with
    | some k => if k ∈ ks.take i then cntU ks i else cntU ks i + 1
    | none => cntU ks i
def unlike (ks : List Tx) : Nat := cntU ks ks.length
theorem cnt_le {ks : List Tx} : ∀ i, cntU ks i ≤ i
  | 0 => Nat.le_refl _
  | i + 1 => by
    have := cnt_le (ks := ks) i
    unfold cntU
    split
    · split <;> omega
    · omega
theorem cnt_eq {ks : List Tx} : ∀ i, i ≤ ks.length → (cntU ks i = i ↔ (ks.take i).Nodup)
  | 0, _ => by simp [cntU]
  | i + 1, hi => by
    have hk : ks[i]? = some ks[i] := List.getElem?_eq_getElem hi
    have ih := cnt_eq (ks := ks) i (Nat.le_of_lt hi)
    have le := cnt_le (ks := ks) i
    have e : ks.take (i + 1) = ks.take i ++ [ks[i]] := by rw [List.take_add_one, hk]; rfl
    unfold cntU
    rw [hk, e]
    dsimp only
    rw [List.nodup_append]
    by_cases hm : ks[i] ∈ ks.take i
    · rw [if_pos hm]
      exact ⟨fun z => by omega, fun z => absurd rfl (z.2.2 _ hm _ (List.mem_singleton.mpr rfl))⟩
    · rw [if_neg hm]
      constructor
      · intro z
        refine ⟨ih.mp (by omega), by simp, fun a ha b hb => ?_⟩
        rw [List.mem_singleton] at hb
        subst hb
        exact fun q => hm (q ▸ ha)
      · intro z
        have := ih.mpr z.1
        omega
theorem unlike_eq {ks : List Tx} : unlike ks = ks.length ↔ ks.Nodup := by
  have := cnt_eq (ks := ks) ks.length (Nat.le_refl _)
  rwa [List.take_length] at this
def lenSetD  : MF := fun ds s => match ds with
  | [d] => match (asL s d).bind dStrs with
    | some l => if l.length ≤ 2000 then .ok (.int (unlike l)) s else .stuck
    | none => .stuck
  | _ => .stuck
theorem lenSetD_at  (ds : List Dx) (s : Sto) : lenSetD  ds s = match ds with
  | [d] => match (asL s d).bind dStrs with
    | some l => if l.length ≤ 2000 then .ok (.int (unlike l)) s else .stuck
    | none => .stuck
  | _ => .stuck := rfl
/-- texts glued -/
def joinT (a : Tx) : List Tx → Tx
  | [] => []
  | y :: ys => y ++ (ys.map fun y => a ++ y).flatten
def eJoin (a b : ME) : ME := fun e s => (a e s).bind fun x s1 => match x with
  | .str z => (b e s1).bind fun y s2 => match (asQ s2 y).bind dStrs with
    | some l => if (l.map (·.length)).sum + l.length * z.length ≤ most then .ok (.str (joinT z l)) s2 else .stuck
    | none => .stuck
  | _ => .stuck
@[simp] theorem eJoin_at (a b : ME) (e : En) (s : Sto) : eJoin a b e s = (a e s).bind fun x s1 => match x with
  | .str z => (b e s1).bind fun y s2 => match (asQ s2 y).bind dStrs with
    | some l => if (l.map (·.length)).sum + l.length * z.length ≤ most then .ok (.str (joinT z l)) s2 else .stuck
    | none => .stuck
  | _ => .stuck := rfl
/-! ## isinstance -/
def isTy (s : Sto) (b : String) : Dx → Option Bool
  | .int _ => some (decide (b = "int"))
  | .bl _ => some (decide (b = "bool") || decide (b = "int"))
  | .non => some (decide (b = "NoneType"))
  | .str _ => some (decide (b = "str"))
  | .tup _ => some (decide (b = "tuple"))
  | .lst _ => some (decide (b = "list"))
  | .dct => some (decide (b = "dict"))
  | .obj _ _ => some false
  | .cell n => match s[n]? with
    | some (.lst _) => some (decide (b = "list"))
    | some (.obj _ _) => some false
    | none => none
  | _ => none
def isSub (C X : String) : Bool := match subT.lookup C with
  | some z => z.1.contains X
  | none => false
def hasF (C f : String) : Bool := match subT.lookup C with
  | some z => z.2.contains f
  | none => false
def isSubX (C X : String) : Bool := match excT.lookup C with
  | some z => z.1.contains X
  | none => false
def inT (C : String) : Bool := (subT.lookup C).isSome
def inX (C : String) : Bool := (excT.lookup C).isSome
def isCl (s : Sto) (X : String) : Dx → Option Bool
  | .int _ => some false
  | .bl _ => some false
  | .non => some false
  | .str _ => some false
  | .tup _ => some false
  | .lst _ => some false
  | .dct => some false
  | .obj C _ => some (isSub C X)
  | .cell n => match s[n]? with
    | some (.lst _) => some false
    | some (.obj C _) => some (isSub C X)
    | none => none
  | _ => none
def bTys : List String := ["int", "bool", "str", "NoneType", "tuple", "list", "dict"]
def isiD  : MF := fun ds s => match ds with
  | [d, c] => (match (match c with
    | .cls X => if inT X = true then isCl s X d else none
    | .ty b => if bTys.contains b = true then isTy s b d else none
    | _ => none) with
    | some b => .ok (.bl b) s
    | none => .stuck)
  | _ => .stuck
theorem isiD_at  (ds : List Dx) (s : Sto) : isiD  ds s = match ds with
  | [d, c] => (match (match c with
    | .cls X => if inT X = true then isCl s X d else none
    | .ty b => if bTys.contains b = true then isTy s b d else none
    | _ => none) with
    | some b => .ok (.bl b) s
    | none => .stuck)
  | _ => .stuck := rfl
/-! isinstance of what an except's suite holds -/
def isX (C : String) : Dx → Option Bool
  | .cls X => if inX X then some (isSubX C X) else none
  | .ty b => if b = "ValueError" then some true else none
  | _ => none
@[simp] def isXs (C : String) : List Dx → Option Bool
  | [] => some false
  | d :: ds => match isX C d, isXs C ds with
    | some a, some b => some (a || b)
    | _, _ => none
/-- isinstance(e, C), isinstance(e, (C, ..)), e.f of what the suite holds -/
def eIsE (c : ME) : ME := fun e s => (c e s).bind fun d s1 => match e.ex with
  | some (C, _) => (match isX C d with
    | some b => .ok (.bl b) s1
    | none => .stuck)
  | none => .stuck
@[simp] theorem eIsE_at (c : ME) (e : En) (s : Sto) : eIsE c e s = (c e s).bind fun d s1 => match e.ex with
  | some (C, _) => (match isX C d with
    | some b => .ok (.bl b) s1
    | none => .stuck)
  | none => .stuck := rfl
def eIsET (cs : MA) : ME := fun e s => (cs e s).bind fun ds s1 => match e.ex with
  | some (C, _) => if ds.length ≤ most then (match isXs C ds with
    | some b => .ok (.bl b) s1
    | none => .stuck) else .stuck
  | none => .stuck
@[simp] theorem eIsET_at (cs : MA) (e : En) (s : Sto) : eIsET cs e s = (cs e s).bind fun ds s1 => match e.ex with
  | some (C, _) => if ds.length ≤ most then (match isXs C ds with
    | some b => .ok (.bl b) s1
    | none => .stuck) else .stuck
  | none => .stuck := rfl
def eFldE (L : List String) (f : String) : ME := fun e s => match e.ex with
  | some (C, fs) => if L.contains C = true then (match fs.lookup f with
    | some d => .ok d s
    | none => .stuck) else .stuck
  | none => .stuck
@[simp] theorem eFldE_at (L : List String) (f : String) (e : En) (s : Sto) : eFldE L f e s = match e.ex with
  | some (C, fs) => if L.contains C = true then (match fs.lookup f with
    | some d => .ok d s
    | none => .stuck) else .stuck
  | none => .stuck := rfl
def isD1 (s : Sto) (d : Dx) : Dx → Option Bool
  | .cls X => if inT X = true then isCl s X d else none
  | .ty b => if bTys.contains b = true then isTy s b d else none
  | _ => none
@[simp] def isDs (s : Sto) (d : Dx) : List Dx → Option Bool
  | [] => some false
  | c :: cs => match isD1 s d c, isDs s d cs with
    | some a, some b => some (a || b)
    | _, _ => none
/-- isinstance(x, (C, ..)) -/
def eIsT (a : ME) (cs : MA) : ME := fun e s => (a e s).bind fun x s1 => (cs e s1).bind fun ds s2 => if ds.isEmpty = false ∧ ds.length ≤ most then (match isDs s2 x ds with
  | some b => .ok (.bl b) s2
  | none => .stuck) else .stuck
@[simp] theorem eIsT_at (a : ME) (cs : MA) (e : En) (s : Sto) : eIsT a cs e s = (a e s).bind fun x s1 => (cs e s1).bind fun ds s2 => if ds.isEmpty = false ∧ ds.length ≤ most then (match isDs s2 x ds with
  | some b => .ok (.bl b) s2
  | none => .stuck) else .stuck := rfl
/-! ## fields -/
def fldD (f : String) : O1 := fun x s => match asO s x with
  | some (_, fs) => match fs.lookup f with
    | some d => .ok d s
    | none => .stuck
  | none => .stuck
@[simp] theorem fldD_at (f : String) (x : Dx) (s : Sto) : fldD f x s = match asO s x with
  | some (_, fs) => match fs.lookup f with
    | some d => .ok d s
    | none => .stuck
  | none => .stuck := rfl
@[simp] def putE {α : Type} (f : String) (v : α) : List (String × α) → List (String × α)
  | [] => [(f, v)]
  | (g, x) :: r => if g = f then (f, v) :: r else (g, x) :: putE f v r
/-! ## calls, objects -/
def eMake0 (C : String) : ME := fun _ s => .ok (.obj C []) s
@[simp] theorem eMake0_at (C : String) (e0 : En) (s : Sto) : eMake0 C e0 s = .ok (.obj C []) s := rfl
def eMake (C : String) (f : MI) (as : MA) : ME := fun e s => (as e s).bind fun ds s1 => (f ds s1).bind fun fs s2 => .ok (.obj C fs) s2
@[simp] theorem eMake_at (C : String) (f : MI) (as : MA) (e : En) (s : Sto) : eMake C f as e s = (as e s).bind fun ds s1 => (f ds s1).bind fun fs s2 => .ok (.obj C fs) s2 := rfl
def eMakeD (C : String) (f : MI) (dv : List Dx) (as : MA) : ME := fun e s => (as e s).bind fun ds s1 => (f (ds ++ dv) s1).bind fun fs s2 => .ok (.obj C fs) s2
@[simp] theorem eMakeD_at (C : String) (f : MI) (dv : List Dx) (as : MA) (e : En) (s : Sto) : eMakeD C f dv as e s = (as e s).bind fun ds s1 => (f (ds ++ dv) s1).bind fun fs s2 => .ok (.obj C fs) s2 := rfl
/-- an object that may change: a cell -/
def eMakeC (C : String) (f : MF) (as : MA) : ME := fun e s => (as e s).bind fun ds s1 => (f (.cell s1.length :: ds) (s1 ++ [.obj C []])).bind fun v s2 => match v with
  | .non => .ok (.cell s1.length) s2
  | _ => .stuck
@[simp] theorem eMakeC_at (C : String) (f : MF) (as : MA) (e : En) (s : Sto) : eMakeC C f as e s = (as e s).bind fun ds s1 => (f (.cell s1.length :: ds) (s1 ++ [.obj C []])).bind fun v s2 => match v with
  | .non => .ok (.cell s1.length) s2
  | _ => .stuck := rfl
/-- C(.., k = v, ..): n places, m names -/
def eMakeK (C : String) (f : MI) (n m : Nat) (gd : List Dx → List Dx → List Dx) (as ks : MA) : ME := fun e s => (as e s).bind fun ds s1 => (ks e s1).bind fun zs s2 => if ds.length = n ∧ zs.length = m then (f (gd ds zs) s2).bind fun fs s3 => .ok (.obj C fs) s3 else .stuck
@[simp] theorem eMakeK_at (C : String) (f : MI) (n m : Nat) (gd : List Dx → List Dx → List Dx) (as ks : MA) (e : En) (s : Sto) : eMakeK C f n m gd as ks e s = (as e s).bind fun ds s1 => (ks e s1).bind fun zs s2 => if ds.length = n ∧ zs.length = m then (f (gd ds zs) s2).bind fun fs s3 => .ok (.obj C fs) s3 else .stuck := rfl
/-- o.m(..): by the class of o -/
def eMeth (l : List (String × MF)) (a : ME) (as : MA) : ME := fun e s => (a e s).calm.bind fun d s1 => match asO s1 d with
  | some (C, _) => match l.lookup C with
    | some f => (as e s1).bind fun ds s2 => f (d :: ds) s2
    | none => .stuck
  | none => .stuck
@[simp] theorem eMeth_at (l : List (String × MF)) (a : ME) (as : MA) (e : En) (s : Sto) : eMeth l a as e s = (a e s).calm.bind fun d s1 => match asO s1 d with
  | some (C, _) => match l.lookup C with
    | some f => (as e s1).bind fun ds s2 => f (d :: ds) s2
    | none => .stuck
  | none => .stuck := rfl
/-! ## comprehensions, loops -/
/-- what is walked: its items, the cell where it stands -/
abbrev MW := En → Sto → R (List Dx × Option Nat)
def wD (a : ME) : MW := fun e s => (a e s).bind fun x s1 => match x with
  | .lst xs => .ok (xs, none) s1
  | .fro xs => .ok (xs, none) s1
  | .tup xs => .ok (xs, none) s1
  | .str z => .ok (z.map fun c => .str [c], none) s1
  | .cell n => match s1[n]? with
    | some (.lst xs) => .ok (xs, some n) s1
    | _ => .stuck
  | _ => .stuck
@[simp] theorem wD_at (a : ME) (e : En) (s : Sto) : wD a e s = (a e s).bind fun x s1 => match x with
  | .lst xs => .ok (xs, none) s1
  | .fro xs => .ok (xs, none) s1
  | .tup xs => .ok (xs, none) s1
  | .str z => .ok (z.map fun c => .str [c], none) s1
  | .cell n => match s1[n]? with
    | some (.lst xs) => .ok (xs, some n) s1
    | _ => .stuck
  | _ => .stuck := rfl
def rng (lo : Int) (n : Nat) : List Dx := (List.range n).map fun (i : Nat) => Dx.int (lo + (i : Int))
def wRng1 (as : MA) : MW := fun e s => (as e s).bind fun ds s1 => match ds with
  | [.int j] => if -(2 ^ 60) ≤ j ∧ j ≤ 2 ^ 60 then .ok (rng 0 j.toNat, none) s1 else .stuck
  | _ => .stuck
@[simp] theorem wRng1_at (as : MA) (e : En) (s : Sto) : wRng1 as e s = (as e s).bind fun ds s1 => match ds with
  | [.int j] => if -(2 ^ 60) ≤ j ∧ j ≤ 2 ^ 60 then .ok (rng 0 j.toNat, none) s1 else .stuck
  | _ => .stuck := rfl
/-- list(range(n)) -/
def eListR (c : Bool) (a : ME) : ME := fun e s => (a e s).bind fun d s1 => match d with
  | .int j => if -1000000 ≤ j ∧ j ≤ 1000000 then newL c (rng 0 j.toNat) s1 else .stuck
  | _ => .stuck
@[simp] theorem eListR_at (c : Bool) (a : ME) (e : En) (s : Sto) : eListR c a e s = (a e s).bind fun d s1 => match d with
  | .int j => if -1000000 ≤ j ∧ j ≤ 1000000 then newL c (rng 0 j.toNat) s1 else .stuck
  | _ => .stuck := rfl
def wRng2 (as : MA) : MW := fun e s => (as e s).bind fun ds s1 => match ds with
  | [.int i, .int j] => if -(2 ^ 60) ≤ i ∧ i ≤ 2 ^ 60 ∧ -(2 ^ 60) ≤ j ∧ j ≤ 2 ^ 60 then .ok (rng i (j - i).toNat, none) s1 else .stuck
  | _ => .stuck
@[simp] theorem wRng2_at (as : MA) (e : En) (s : Sto) : wRng2 as e s = (as e s).bind fun ds s1 => match ds with
  | [.int i, .int j] => if -(2 ^ 60) ≤ i ∧ i ≤ 2 ^ 60 ∧ -(2 ^ 60) ≤ j ∧ j ≤ 2 ^ 60 then .ok (rng i (j - i).toNat, none) s1 else .stuck
  | _ => .stuck := rfl
def stands (c : Option Nat) (xs : List Dx) (s : Sto) : Prop := match c with
  | none => True
  | some n => s[n]? = some (.lst xs)
@[simp] theorem stands_none {xs : List Dx} {s : Sto} : stands none xs s = True := rfl
theorem stands_some {n : Nat} {xs : List Dx} {s : Sto} : stands (some n) xs s = (s[n]? = some (.lst xs)) := rfl
abbrev MG := Dx → En → Sto → Option En
def hNm (i : Nat) : MG := fun d e _ => some { e with sl := e.sl.set i (some d) }
@[simp] theorem hNm_at (i : Nat) (d : Dx) (e : En) (s0 : Sto) : hNm i d e s0 = some { e with sl := e.sl.set i (some d) } := rfl
abbrev MGs := List Dx → En → Sto → Option En
def hNil  : MGs := fun ds e _ => match ds with
  | [] => some e
  | _ => none
@[simp] theorem hNil_at  (ds : List Dx) (e : En) (s0 : Sto) : hNil  ds e s0 = match ds with
  | [] => some e
  | _ => none := rfl
def hCons (g : MG) (gs : MGs) : MGs := fun ds e s => match ds with
  | d :: ds => (g d e s).bind fun e1 => gs ds e1 s
  | [] => none
@[simp] theorem hCons_at (g : MG) (gs : MGs) (ds : List Dx) (e : En) (s : Sto) : hCons g gs ds e s = match ds with
  | d :: ds => (g d e s).bind fun e1 => gs ds e1 s
  | [] => none := rfl
def hTup (n : Nat) (gs : MGs) : MG := fun d e s => match d with
  | .tup xs => if xs.length = n then gs xs e s else none
  | _ => none
@[simp] theorem hTup_at (n : Nat) (gs : MGs) (d : Dx) (e : En) (s : Sto) : hTup n gs d e s = match d with
  | .tup xs => if xs.length = n then gs xs e s else none
  | _ => none := rfl
/-- a, b = a list -/
def hLst (n : Nat) (gs : MGs) : MG := fun d e s => match asL s d with
  | some xs => if xs.length = n then gs xs e s else none
  | none => none
@[simp] theorem hLst_at (n : Nat) (gs : MGs) (d : Dx) (e : En) (s : Sto) : hLst n gs d e s = match asL s d with
  | some xs => if xs.length = n then gs xs e s else none
  | none => none := rfl
@[simp] def wipeE (l : List (Option Dx)) : List Nat → List (Option Dx)
  | [] => l
  | v :: vs => (wipeE l vs).set v none
open Classical in
noncomputable def lcL (g : MG) (tt : MT) (te : ME) (e : En) (c : Option Nat) (all : List Dx) : List Dx → Sto → R (List Dx)
  | [], s => if stands c all s then .ok [] s else .stuck
  | x :: xs, s => if stands c all s then (match g x e s with
    | some e1 => (tt e1 s).calm.bind fun b s1 => if b = true then (te e1 s1).calm.bind fun y s2 => (lcL g tt te e c all xs s2).bind fun ys s3 => .ok (y :: ys) s3 else lcL g tt te e c all xs s1
    | none => .stuck) else .stuck
noncomputable def eLc (k : Bool) (w : MW) (g : MG) (tt : MT) (te : ME) (ws : List Nat) : ME := fun e s => (w e s).bind fun x s1 => if x.1.length ≤ most then
  (lcL g tt te { e with sl := wipeE e.sl ws } x.2 x.1 x.1 s1).bind fun ys s2 => newL k ys s2 else .stuck
@[simp] theorem eLc_at (k : Bool) (w : MW) (g : MG) (tt : MT) (te : ME) (ws : List Nat) (e : En) (s : Sto) : eLc k w g tt te ws e s = (w e s).bind fun x s1 => if x.1.length ≤ most then
  (lcL g tt te { e with sl := wipeE e.sl ws } x.2 x.1 x.1 s1).bind fun ys s2 => newL k ys s2 else .stuck := rfl
/-! ## statements -/
def sNext  : MS := fun e s => .nx e s
@[simp] theorem sNext_at  (e : En) (s : Sto) : sNext  e s = .nx e s := rfl
def sSeq (t u : MS) : MS := fun e s => match t e s with
  | .nx e1 s1 => u e1 s1
  | r => r
def S.sq : S → MS → S
  | .nx e s, u => u e s
  | r, _ => r
@[simp] theorem sq_nx (e : En) (s : Sto) (u : MS) : S.sq (.nx e s) u = u e s := rfl
@[simp] theorem sq_rt (v : Dx) (s : Sto) (u : MS) : S.sq (.rt v s) u = .rt v s := rfl
@[simp] theorem sq_bk (e : En) (s : Sto) (u : MS) : S.sq (.bk e s) u = .bk e s := rfl
@[simp] theorem sq_ct (e : En) (s : Sto) (u : MS) : S.sq (.ct e s) u = .ct e s := rfl
@[simp] theorem sq_exc (C : String) (fs : Fs) (e : En) (s : Sto) (u : MS) : S.sq (.exc C fs e s) u = .exc C fs e s := rfl
@[simp] theorem sq_stuck (u : MS) : S.sq .stuck u = .stuck := rfl
@[simp] theorem sSeq_at (t u : MS) (e : En) (s : Sto) : sSeq t u e s = S.sq (t e s) u := by unfold sSeq; cases t e s <;> rfl
def sAsg (a : ME) (g : MG) : MS := fun e s => (a e s).s e fun x s1 => match g x e s1 with
  | some e1 => .nx e1 s1
  | none => .stuck
@[simp] theorem sAsg_at (a : ME) (g : MG) (e : En) (s : Sto) : sAsg a g e s = (a e s).s e fun x s1 => match g x e s1 with
  | some e1 => .nx e1 s1
  | none => .stuck := rfl
def sAug (i : Nat) (a : ME) (f : O2) : MS := fun e s => match e.sl[i]? with
  | some (some x) => (a e s).s e fun y s1 => (f x y s1).s e fun z s2 => .nx { e with sl := e.sl.set i (some z) } s2
  | _ => .stuck
@[simp] theorem sAug_at (i : Nat) (a : ME) (f : O2) (e : En) (s : Sto) : sAug i a f e s = match e.sl[i]? with
  | some (some x) => (a e s).s e fun y s1 => (f x y s1).s e fun z s2 => .nx { e with sl := e.sl.set i (some z) } s2
  | _ => .stuck := rfl
def sDrop (a : ME) : MS := fun e s => (a e s).s e fun _ s1 => .nx e s1
@[simp] theorem sDrop_at (a : ME) (e : En) (s : Sto) : sDrop a e s = (a e s).s e fun _ s1 => .nx e s1 := rfl
def sRet (a : ME) : MS := fun e s => (a e s).s e fun x s1 => .rt x s1
@[simp] theorem sRet_at (a : ME) (e : En) (s : Sto) : sRet a e s = (a e s).s e fun x s1 => .rt x s1 := rfl
def sRetN  : MS := fun _ s => .rt .non s
@[simp] theorem sRetN_at  (e0 : En) (s : Sto) : sRetN  e0 s = .rt .non s := rfl
def sIf (t : MT) (a b : MS) : MS := fun e s => (t e s).s e fun c s1 => if c = true then a e s1 else b e s1
def R.sif : R Bool → En → MS → MS → S
  | .ok c s, e, a, b => if c = true then a e s else b e s
  | .exc C f s, e, _, _ => .exc C f e s
  | .stuck, _, _, _ => .stuck
@[simp] theorem sif_ok (c : Bool) (s : Sto) (e : En) (a b : MS) : R.sif (.ok c s) e a b = if c = true then a e s else b e s := rfl
@[simp] theorem sif_exc (C : String) (f : Fs) (s : Sto) (e : En) (a b : MS) : R.sif (.exc C f s) e a b = .exc C f e s := rfl
@[simp] theorem sIf_at (t : MT) (a b : MS) (e : En) (s : Sto) : sIf t a b e s = R.sif (t e s) e a b := by unfold sIf; cases t e s <;> rfl
def sBreak  : MS := fun e s => .bk e s
@[simp] theorem sBreak_at  (e : En) (s : Sto) : sBreak  e s = .bk e s := rfl
def sCont  : MS := fun e s => .ct e s
@[simp] theorem sCont_at  (e : En) (s : Sto) : sCont  e s = .ct e s := rfl
/-- a[i] = v -/
def sPut (o i a : ME) : MS := fun e s => (a e s).s e fun v s1 => (o e s1).s e fun x s2 => (i e s2).s e fun j s3 => match x, j with
  | .cell n, .int k => match s3[n]? with
    | some (.lst xs) => if 0 ≤ k ∧ k < xs.length then .nx e (s3.set n (.lst (xs.set k.toNat v))) else .stuck
    | _ => .stuck
  | _, _ => .stuck
@[simp] theorem sPut_at (o i a : ME) (e : En) (s : Sto) : sPut o i a e s = (a e s).s e fun v s1 => (o e s1).s e fun x s2 => (i e s2).s e fun j s3 => match x, j with
  | .cell n, .int k => match s3[n]? with
    | some (.lst xs) => if 0 ≤ k ∧ k < xs.length then .nx e (s3.set n (.lst (xs.set k.toNat v))) else .stuck
    | _ => .stuck
  | _, _ => .stuck := rfl
/-- xs.append(v) -/
def eApp (o a : ME) : ME := fun e s => (o e s).bind fun x s1 => match x with
  | .cell n => match s1[n]? with
    | some (.lst _) => (a e s1).bind fun v s2 => match s2[n]? with
      | some (.lst xs) => if xs.length < most then .ok .non (s2.set n (.lst (xs ++ [v]))) else .stuck
      | _ => .stuck
    | _ => .stuck
  | _ => .stuck
@[simp] theorem eApp_at (o a : ME) (e : En) (s : Sto) : eApp o a e s = (o e s).bind fun x s1 => match x with
  | .cell n => match s1[n]? with
    | some (.lst _) => (a e s1).bind fun v s2 => match s2[n]? with
      | some (.lst xs) => if xs.length < most then .ok .non (s2.set n (.lst (xs ++ [v]))) else .stuck
      | _ => .stuck
    | _ => .stuck
  | _ => .stuck := rfl
/-- self.f = v in an __init__ -/
def sMe (f : String) (a : ME) : MS := fun e s => (a e s).s e fun v s1 => if e.me.length < 900 then .nx { e with me := putE f v e.me } s1 else .stuck
@[simp] theorem sMe_at (f : String) (a : ME) (e : En) (s : Sto) : sMe f a e s = (a e s).s e fun v s1 => if e.me.length < 900 then .nx { e with me := putE f v e.me } s1 else .stuck := rfl
def eMeF (f : String) : ME := fun e s => match e.me.lookup f with
  | some d => .ok d s
  | none => .stuck
@[simp] theorem eMeF_at (f : String) (e : En) (s : Sto) : eMeF f e s = match e.me.lookup f with
  | some d => .ok d s
  | none => .stuck := rfl
/-- o.f = v, o a cell's object -/
def sSet (f : String) (o a : ME) : MS := fun e s => (a e s).s e fun v s1 => (o e s1).s e fun x s2 => match x with
  | .cell n => match s2[n]? with
    | some (.obj C fs) => if hasF C f = true ∧ fs.length < 900 then .nx e (s2.set n (.obj C (putE f v fs))) else .stuck
    | _ => .stuck
  | _ => .stuck
@[simp] theorem sSet_at (f : String) (o a : ME) (e : En) (s : Sto) : sSet f o a e s = (a e s).s e fun v s1 => (o e s1).s e fun x s2 => match x with
  | .cell n => match s2[n]? with
    | some (.obj C fs) => if hasF C f = true ∧ fs.length < 900 then .nx e (s2.set n (.obj C (putE f v fs))) else .stuck
    | _ => .stuck
  | _ => .stuck := rfl
def sRaise (C : String) : MS := fun e s => .exc C [] e s
@[simp] theorem sRaise_at (C : String) (e : En) (s : Sto) : sRaise C e s = .exc C [] e s := rfl
/-- raise C(..): C's own __init__ of n parameters sets field f of argument j (the object is argument 0) -/
def sRaiseO (C f : String) (j n : Nat) (dv : List Dx) (as : MA) : MS := fun e s => (as e s).s e fun ds s1 => if ds.length ≤ 1000 ∧ (ds ++ dv).length + 1 = n then (match (Dx.non :: (ds ++ dv))[j]? with
  | some d => if 0 < j then .exc C [(f, d)] e s1 else .stuck
  | none => .stuck) else .stuck
@[simp] theorem sRaiseO_at (C f : String) (j n : Nat) (dv : List Dx) (as : MA) (e : En) (s : Sto) : sRaiseO C f j n dv as e s = (as e s).s e fun ds s1 => if ds.length ≤ 1000 ∧ (ds ++ dv).length + 1 = n then (match (Dx.non :: (ds ++ dv))[j]? with
  | some d => if 0 < j then .exc C [(f, d)] e s1 else .stuck
  | none => .stuck) else .stuck := rfl
/-! ## texts cut, read as numbers; a def's name as a value -/
def splT (S : Tx) : Nat → Tx → Tx → List Tx
  | _, acc, [] => [acc]
  | 0, acc, c :: r => if (c :: r).take S.length == S then acc :: splT S (S.length - 1) [] r else splT S 0 (acc ++ [c]) r
  | k + 1, acc, _ :: r => splT S k acc r
def eSplit (c : Bool) (a b : ME) : ME := fun e s => (a e s).bind fun x s1 => match x with
  | .str z => (b e s1).bind fun y s2 => match y with
    | .str t => if t ≠ [] ∧ (t.all fun c => decide (c < 256)) = true ∧ z.length ≤ most then newL c ((splT t 0 [] z).map Dx.str) s2 else .stuck
    | _ => .stuck
  | _ => .stuck
@[simp] theorem eSplit_at (c : Bool) (a b : ME) (e : En) (s : Sto) : eSplit c a b e s = (a e s).bind fun x s1 => match x with
  | .str z => (b e s1).bind fun y s2 => match y with
    | .str t => if t ≠ [] ∧ (t.all fun c => decide (c < 256)) = true ∧ z.length ≤ most then newL c ((splT t 0 [] z).map Dx.str) s2 else .stuck
    | _ => .stuck
  | _ => .stuck := rfl
def eStarts (a b : ME) : ME := fun e s => (a e s).bind fun x s1 => match x with
  | .str z => (b e s1).bind fun y s2 => match y with
    | .str t => .ok (.bl (z.take t.length == t)) s2
    | _ => .stuck
  | _ => .stuck
@[simp] theorem eStarts_at (a b : ME) (e : En) (s : Sto) : eStarts a b e s = (a e s).bind fun x s1 => match x with
  | .str z => (b e s1).bind fun y s2 => match y with
    | .str t => .ok (.bl (z.take t.length == t)) s2
    | _ => .stuck
  | _ => .stuck := rfl
def figs (z : Tx) : Bool := !z.isEmpty && z.all fun c => decide (48 ≤ c) && decide (c ≤ 57)
def numT (z : Tx) : Nat := z.foldl (fun n c => n * 10 + (c - 48)) 0
def intOf (z : Tx) : Option Int := if figs z = true then some (numT z : Int) else match z with
  | 45 :: r => if figs r = true then some (-(numT r : Int)) else none
  | _ => none
def intT : MF := fun ds s => match ds with
  | [.str z] => if z.length ≤ 640 then (match intOf z with
    | some i => .ok (.int i) s
    | none => .stuck) else .stuck
  | _ => .stuck
@[simp] theorem intT_at (z : Tx) (s : Sto) : intT [.str z] s = if z.length ≤ 640 then (match intOf z with
    | some i => .ok (.int i) s
    | none => .stuck) else .stuck := rfl
/-- the slot's def is called; else the rest -/
def eCallV (x : String) (f : MF) (dv : List Dx) (i : Nat) (as : MA) (rest : ME) : ME := fun e s => match e.sl[i]? with
  | some (some (.cls y)) => if y = x then (as e s).bind fun ds s1 => f (ds ++ dv) s1 else rest e s
  | _ => .stuck
@[simp] theorem eCallV_at (x : String) (f : MF) (dv : List Dx) (i : Nat) (as : MA) (rest : ME) (e : En) (s : Sto) : eCallV x f dv i as rest e s = match e.sl[i]? with
  | some (some (.cls y)) => if y = x then (as e s).bind fun ds s1 => f (ds ++ dv) s1 else rest e s
  | _ => .stuck := rfl
def eNone : ME := fun _ _ => .stuck
/-- exceptions that may bear a context -/
def othN : List String := ["NoText"]
/-- try: body except (Xs): suite, without a name -/
def sTryR (body : MS) (Xs : List String) (suite : MS) : MS := fun e s => match body e s with
  | .exc C fs e1 s1 => if Xs.any (fun X => isSubX C X) = true then suite e1 s1 else .exc C fs e1 s1
  | r => r
@[simp] theorem sTryR_at (body : MS) (Xs : List String) (suite : MS) (e : En) (s : Sto) : sTryR body Xs suite e s = match body e s with
  | .exc C fs e1 s1 => if Xs.any (fun X => isSubX C X) = true then suite e1 s1 else .exc C fs e1 s1
  | r => r := rfl
/-- try: body except X as slot i: suite -/
def sTry (body : MS) (X : String) (i : Nat) (suite : MS) : MS := fun e s => match body e s with
  | .exc C fs e1 s1 => if isSubX C X = true then if i < e1.sl.length then (match suite ⟨e1.sl.set i none, e1.me, some (C, fs)⟩ s1 with
      | .nx e2 s2 => .nx ⟨e2.sl.set i none, e2.me, none⟩ s2
      | .bk e2 s2 => .bk ⟨e2.sl.set i none, e2.me, none⟩ s2
      | .ct e2 s2 => .ct ⟨e2.sl.set i none, e2.me, none⟩ s2
      | .rt v s2 => .rt v s2
      | _ => .stuck) else .stuck
    else .exc C fs e1 s1
  | r => r
def S.ends (i : Nat) : S → S
  | .nx e2 s2 => .nx ⟨e2.sl.set i none, e2.me, none⟩ s2
  | .bk e2 s2 => .bk ⟨e2.sl.set i none, e2.me, none⟩ s2
  | .ct e2 s2 => .ct ⟨e2.sl.set i none, e2.me, none⟩ s2
  | .rt v s2 => .rt v s2
  | _ => .stuck
@[simp] theorem ends_nx (i : Nat) (e : En) (s : Sto) : S.ends i (.nx e s) = .nx ⟨e.sl.set i none, e.me, none⟩ s := rfl
@[simp] theorem ends_rt (i : Nat) (v : Dx) (s : Sto) : S.ends i (.rt v s) = .rt v s := rfl
@[simp] theorem ends_ct (i : Nat) (e : En) (s : Sto) : S.ends i (.ct e s) = .ct ⟨e.sl.set i none, e.me, none⟩ s := rfl
def S.tr (X : String) (i : Nat) (u : MS) : S → S
  | .exc C fs e1 s1 => if isSubX C X = true then if i < e1.sl.length then S.ends i (u ⟨e1.sl.set i none, e1.me, some (C, fs)⟩ s1) else .stuck else .exc C fs e1 s1
  | r => r
@[simp] theorem tr_nx (X : String) (i : Nat) (u : MS) (e : En) (s : Sto) : S.tr X i u (.nx e s) = .nx e s := rfl
@[simp] theorem tr_rt (X : String) (i : Nat) (u : MS) (v : Dx) (s : Sto) : S.tr X i u (.rt v s) = .rt v s := rfl
@[simp] theorem tr_exc (X C : String) (i : Nat) (u : MS) (fs : Fs) (e1 : En) (s1 : Sto) : S.tr X i u (.exc C fs e1 s1) = if isSubX C X = true then if i < e1.sl.length then S.ends i (u ⟨e1.sl.set i none, e1.me, some (C, fs)⟩ s1) else .stuck else .exc C fs e1 s1 := rfl
@[simp] theorem sTry_at (body : MS) (X : String) (i : Nat) (suite : MS) (e : En) (s : Sto) : sTry body X i suite e s = S.tr X i suite (body e s) := by
  unfold sTry
  cases hb : body e s with
  | exc C fs e1 s1 =>
    simp only [tr_exc]
    congr
  | _ => rfl
open Classical in
noncomputable def forL (g : MG) (b : MS) (c : Option Nat) (all : List Dx) : List Dx → MS
  | [] => fun e s => if stands c all s then .nx e s else .stuck
  | x :: xs => fun e s => if stands c all s then (match g x e s with
    | some e1 => (match b e1 s with
      | .nx e2 s2 => forL g b c all xs e2 s2
      | .ct e2 s2 => forL g b c all xs e2 s2
      | .bk e2 s2 => .nx e2 s2
      | r => r)
    | none => .stuck) else .stuck
noncomputable def sFor (w : MW) (g : MG) (b : MS) : MS := fun e s => (w e s).s e fun x s1 => forL g b x.2 x.1 x.1 e s1
@[simp] theorem sFor_at (w : MW) (g : MG) (b : MS) (e : En) (s : Sto) : sFor w g b e s = (w e s).s e fun x s1 => forL g b x.2 x.1 x.1 e s1 := rfl
def whileL (t : MT) (b : MS) : Nat → MS
  | 0 => fun _ _ => .stuck
  | n + 1 => fun e s => (t e s).s e fun c s1 => if c = true then (match b e s1 with
    | .nx e2 s2 => whileL t b n e2 s2
    | .ct e2 s2 => whileL t b n e2 s2
    | .bk e2 s2 => .nx e2 s2
    | r => r) else .nx e s1
def sWhile (n : Nat) (t : MT) (b : MS) : MS := whileL t b n
@[simp] theorem sWhile_at (n : Nat) (t : MT) (b : MS) (e : En) (s : Sto) : sWhile n t b e s = whileL t b n e s := rfl
/-! ## more of lists -/
/-- xs.clear() -/
def eClear (o : ME) : ME := fun e s => (o e s).bind fun x s1 => match x with
  | .cell n => match s1[n]? with
    | some (.lst _) => .ok .non (s1.set n (.lst []))
    | _ => .stuck
  | _ => .stuck
@[simp] theorem eClear_at (o : ME) (e : En) (s : Sto) : eClear o e s = (o e s).bind fun x s1 => match x with
  | .cell n => match s1[n]? with
    | some (.lst _) => .ok .non (s1.set n (.lst []))
    | _ => .stuck
  | _ => .stuck := rfl
/-- xs.pop() -/
def ePop (o : ME) : ME := fun e s => (o e s).bind fun x s1 => match x with
  | .cell n => match s1[n]? with
    | some (.lst xs) => match xs[xs.length - 1]? with
      | some d => .ok d (s1.set n (.lst xs.dropLast))
      | none => .stuck
    | _ => .stuck
  | _ => .stuck
@[simp] theorem ePop_at (o : ME) (e : En) (s : Sto) : ePop o e s = (o e s).bind fun x s1 => match x with
  | .cell n => match s1[n]? with
    | some (.lst xs) => match xs[xs.length - 1]? with
      | some d => .ok d (s1.set n (.lst xs.dropLast))
      | none => .stuck
    | _ => .stuck
  | _ => .stuck := rfl
/-- xs.pop(0) -/
def ePop0 (o : ME) : ME := fun e s => (o e s).bind fun x s1 => match x with
  | .cell n => match s1[n]? with
    | some (.lst (d :: xs)) => .ok d (s1.set n (.lst xs))
    | _ => .stuck
  | _ => .stuck
@[simp] theorem ePop0_at (o : ME) (e : En) (s : Sto) : ePop0 o e s = (o e s).bind fun x s1 => match x with
  | .cell n => match s1[n]? with
    | some (.lst (d :: xs)) => .ok d (s1.set n (.lst xs))
    | _ => .stuck
  | _ => .stuck := rfl
/-- xs.extend(ys) -/
def eExt (o a : ME) : ME := fun e s => (o e s).bind fun x s1 => match x with
  | .cell n => match s1[n]? with
    | some (.lst _) => (a e s1).bind fun v s2 => match asM s2 v, s2[n]? with
      | some ys, some (.lst xs) => if xs.length + ys.length ≤ most then .ok .non (s2.set n (.lst (xs ++ ys))) else .stuck
      | _, _ => .stuck
    | _ => .stuck
  | _ => .stuck
@[simp] theorem eExt_at (o a : ME) (e : En) (s : Sto) : eExt o a e s = (o e s).bind fun x s1 => match x with
  | .cell n => match s1[n]? with
    | some (.lst _) => (a e s1).bind fun v s2 => match asM s2 v, s2[n]? with
      | some ys, some (.lst xs) => if xs.length + ys.length ≤ most then .ok .non (s2.set n (.lst (xs ++ ys))) else .stuck
      | _, _ => .stuck
    | _ => .stuck
  | _ => .stuck := rfl
/-- xs.index(v): the first place of it -/
def idxOf (v : Dx) : List Dx → Option Nat
  | [] => none
  | x :: xs => if eqv x v = true then some 0 else (idxOf v xs).map (· + 1)
def eIndex (o a : ME) : ME := fun e s => (o e s).bind fun x s1 => match asL s1 x with
  | some _ => (a e s1).bind fun v s2 => match asL s2 x with
    | some xs => if (flat v && xs.all flat) = true then (match idxOf v xs with
      | some j => .ok (.int j) s2
      | none => .stuck) else .stuck
    | none => .stuck
  | none => .stuck
@[simp] theorem eIndex_at (o a : ME) (e : En) (s : Sto) : eIndex o a e s = (o e s).bind fun x s1 => match asL s1 x with
  | some _ => (a e s1).bind fun v s2 => match asL s2 x with
    | some xs => if (flat v && xs.all flat) = true then (match idxOf v xs with
      | some j => .ok (.int j) s2
      | none => .stuck) else .stuck
    | none => .stuck
  | none => .stuck := rfl
/-- o.f += v, o a cell's object -/
def sAugF (f : String) (o a : ME) (op : O2) : MS := fun e s => (o e s).s e fun x s1 => match x with
  | .cell n => match s1[n]? with
    | some (.obj C fs) => match fs.lookup f with
      | some d => (a e s1).s e fun y s2 => (op d y s2).s e fun z s3 => match s3[n]? with
        | some (.obj C2 fs2) => if C2 = C ∧ hasF C f = true ∧ fs2.length < 900 then .nx e (s3.set n (.obj C2 (putE f z fs2))) else .stuck
        | _ => .stuck
      | none => .stuck
    | _ => .stuck
  | _ => .stuck
@[simp] theorem sAugF_at (f : String) (o a : ME) (op : O2) (e : En) (s : Sto) : sAugF f o a op e s = (o e s).s e fun x s1 => match x with
  | .cell n => match s1[n]? with
    | some (.obj C fs) => match fs.lookup f with
      | some d => (a e s1).s e fun y s2 => (op d y s2).s e fun z s3 => match s3[n]? with
        | some (.obj C2 fs2) => if C2 = C ∧ hasF C f = true ∧ fs2.length < 900 then .nx e (s3.set n (.obj C2 (putE f z fs2))) else .stuck
        | _ => .stuck
      | none => .stuck
    | _ => .stuck
  | _ => .stuck := rfl
/-! ## pairs that are walked: enumerate, zip; the items, the cell that must stand, its list -/
abbrev MX := En → Sto → R (List Dx × Option Nat × List Dx)
def cellOf (s : Sto) : Dx → Option (List Dx × Option Nat)
  | .lst xs => some (xs, none)
  | .fro xs => some (xs, none)
  | .cell n => match s[n]? with
    | some (.lst xs) => some (xs, some n)
    | _ => none
  | _ => none
def enumL : Nat → List Dx → List Dx
  | _, [] => []
  | n, x :: xs => .tup [.int n, x] :: enumL (n + 1) xs
def xEnum (a : ME) : MX := fun e s => (a e s).bind fun x s1 => match cellOf s1 x with
  | some (xs, c) => .ok (enumL 0 xs, c, xs) s1
  | none => .stuck
@[simp] theorem xEnum_at (a : ME) (e : En) (s : Sto) : xEnum a e s = (a e s).bind fun x s1 => match cellOf s1 x with
  | some (xs, c) => .ok (enumL 0 xs, c, xs) s1
  | none => .stuck := rfl
def zipL : List Dx → List Dx → List Dx
  | x :: xs, y :: ys => .tup [x, y] :: zipL xs ys
  | _, _ => []
def xZip (a b : ME) : MX := fun e s => (a e s).bind fun x s1 => (b e s1).bind fun y s2 => match x, y with
  | .tup xs, .tup ys => .ok (zipL xs ys, none, []) s2
  | x, y => match cellOf s2 x, cellOf s2 y with
    | some (xs, c), some (ys, none) => .ok (zipL xs ys, c, xs) s2
    | some (xs, none), some (ys, c) => .ok (zipL xs ys, c, ys) s2
    | _, _ => .stuck
@[simp] theorem xZip_at (a b : ME) (e : En) (s : Sto) : xZip a b e s = (a e s).bind fun x s1 => (b e s1).bind fun y s2 => match x, y with
  | .tup xs, .tup ys => .ok (zipL xs ys, none, []) s2
  | x, y => match cellOf s2 x, cellOf s2 y with
    | some (xs, c), some (ys, none) => .ok (zipL xs ys, c, xs) s2
    | some (xs, none), some (ys, c) => .ok (zipL xs ys, c, ys) s2
    | _, _ => .stuck := rfl
noncomputable def sForX (w : MX) (g : MG) (b : MS) : MS := fun e s => (w e s).s e fun x s1 => forL g b x.2.1 x.2.2 x.1 e s1
@[simp] theorem sForX_at (w : MX) (g : MG) (b : MS) (e : En) (s : Sto) : sForX w g b e s = (w e s).s e fun x s1 => forL g b x.2.1 x.2.2 x.1 e s1 := rfl
noncomputable def eLcX (k : Bool) (w : MX) (g : MG) (tt : MT) (te : ME) (ws : List Nat) : ME := fun e s => (w e s).bind fun x s1 => if x.1.length ≤ most then
  (lcL g tt te { e with sl := wipeE e.sl ws } x.2.1 x.2.2 x.1 s1).bind fun ys s2 => newL k ys s2 else .stuck
@[simp] theorem eLcX_at (k : Bool) (w : MX) (g : MG) (tt : MT) (te : ME) (ws : List Nat) (e : En) (s : Sto) : eLcX k w g tt te ws e s = (w e s).bind fun x s1 => if x.1.length ≤ most then
  (lcL g tt te { e with sl := wipeE e.sl ws } x.2.1 x.2.2 x.1 s1).bind fun ys s2 => newL k ys s2 else .stuck := rfl
/-- range(i, j, -1) -/
def rngD (hi : Int) (n : Nat) : List Dx := (List.range n).map fun (i : Nat) => Dx.int (hi - (i : Int))
def wRngD (as : MA) : MW := fun e s => (as e s).bind fun ds s1 => match ds with
  | [.int i, .int j, .int c] => if c = -1 ∧ -(2 ^ 60) ≤ i ∧ i ≤ 2 ^ 60 ∧ -(2 ^ 60) ≤ j ∧ j ≤ 2 ^ 60 then .ok (rngD i (i - j).toNat, none) s1 else .stuck
  | _ => .stuck
@[simp] theorem wRngD_at (as : MA) (e : En) (s : Sto) : wRngD as e s = (as e s).bind fun ds s1 => match ds with
  | [.int i, .int j, .int c] => if c = -1 ∧ -(2 ^ 60) ≤ i ∧ i ≤ 2 ^ 60 ∧ -(2 ^ 60) ≤ j ∧ j ≤ 2 ^ 60 then .ok (rngD i (i - j).toNat, none) s1 else .stuck
  | _ => .stuck := rfl
@[simp] theorem cellOf_lst (xs : List Dx) (s : Sto) : cellOf s (.lst xs) = some (xs, none) := rfl
@[simp] theorem cellOf_fro (xs : List Dx) (s : Sto) : cellOf s (.fro xs) = some (xs, none) := rfl
@[simp] theorem cellOf_cell (n : Nat) (s : Sto) : cellOf s (.cell n) = (match s[n]? with | some (.lst xs) => some (xs, some n) | _ => none) := rfl
/-- o.replace(y, z), both written -/
def eRepl (o : ME) (y z : Tx) : ME := fun e s => (o e s).bind fun x s1 => match x with
  | .str t => if t.length ≤ most then .ok (.str (joinT z (splT y 0 [] t))) s1 else .stuck
  | _ => .stuck
@[simp] theorem eRepl_at (o : ME) (y z : Tx) (e : En) (s : Sto) : eRepl o y z e s = (o e s).bind fun x s1 => match x with
  | .str t => if t.length ≤ most then .ok (.str (joinT z (splT y 0 [] t))) s1 else .stuck
  | _ => .stuck := rfl
def up1 (c : Nat) : Nat := if 97 ≤ c ∧ c ≤ 122 then c - 32 else c
/-- o.upper() -/
def eUp (o : ME) : ME := fun e s => (o e s).bind fun x s1 => match x with
  | .str t => if t.length ≤ most ∧ (t.all fun c => decide (c < 128)) = true then .ok (.str (t.map up1)) s1 else .stuck
  | _ => .stuck
@[simp] theorem eUp_at (o : ME) (e : En) (s : Sto) : eUp o e s = (o e s).bind fun x s1 => match x with
  | .str t => if t.length ≤ most ∧ (t.all fun c => decide (c < 128)) = true then .ok (.str (t.map up1)) s1 else .stuck
  | _ => .stuck := rfl
/-! ## defs -/
@[simp] def env0 (n : Nat) (ds : List Dx) : List (Option Dx) := ds.map some ++ List.replicate (n - ds.length) none
def mkF (k n : Nat) (b : MS) : MF := fun ds s => if ds.length = k then (match b ⟨env0 n ds, [], none⟩ s with
  | .nx _ s => .ok .non s
  | .rt v s => .ok v s
  | .exc C f _ s => .exc C f s
  | _ => .stuck) else .stuck
@[simp] theorem mkF_at (k n : Nat) (b : MS) (ds : List Dx) (s : Sto) : mkF k n b ds s = if ds.length = k then (match b ⟨env0 n ds, [], none⟩ s with
  | .nx _ s => .ok .non s
  | .rt v s => .ok v s
  | .exc C f _ s => .exc C f s
  | _ => .stuck) else .stuck := rfl
/-- an __init__: slot 0 is the object's -/
def mkI (k n : Nat) (b : MS) : MI := fun ds s => if ds.length + 1 = k then (match b ⟨none :: env0 (n - 1) ds, [], none⟩ s with
  | .nx e s => .ok e.me s
  | .exc C f _ s => .exc C f s
  | _ => .stuck) else .stuck
@[simp] theorem mkI_at (k n : Nat) (b : MS) (ds : List Dx) (s : Sto) : mkI k n b ds s = if ds.length + 1 = k then (match b ⟨none :: env0 (n - 1) ds, [], none⟩ s with
  | .nx e s => .ok e.me s
  | .exc C f _ s => .exc C f s
  | _ => .stuck) else .stuck := rfl
/-! ## the operators at data known -/
@[simp] theorem addD_ii (i j : Int) (s : Sto) : addD (.int i) (.int j) s = .ok (.int (i + j)) s := rfl
@[simp] theorem addD_ss (a b : Tx) (s : Sto) : addD (.str a) (.str b) s = if a.length + b.length ≤ most then .ok (.str (a ++ b)) s else .stuck := rfl
@[simp] theorem addD_ll (a b : List Dx) (s : Sto) : addD (.lst a) (.lst b) s = if a.length + b.length ≤ most then .ok (.lst (a ++ b)) s else .stuck := rfl
@[simp] theorem addD_cl (n : Nat) (b : List Dx) (s : Sto) : addD (.cell n) (.lst b) s = (match s[n]? with | some (.lst a) => if a.length + b.length ≤ most then .ok (.lst (a ++ b)) s else .stuck | _ => .stuck) := by unfold addD asM; cases h : s[n]? with
  | none => simp [h, asM]
  | some c => cases c <;> simp [h, asM]
@[simp] theorem addD_lc (n : Nat) (a : List Dx) (s : Sto) : addD (.lst a) (.cell n) s = (match s[n]? with | some (.lst b) => if a.length + b.length ≤ most then .ok (.lst (a ++ b)) s else .stuck | _ => .stuck) := by unfold addD asM; cases h : s[n]? with
  | none => simp [h, asM]
  | some c => cases c <;> simp [h, asM]
@[simp] theorem addD_cc (n m : Nat) (s : Sto) : addD (.cell n) (.cell m) s = (match asM s (.cell n), asM s (.cell m) with | some a, some b => if a.length + b.length ≤ most then .ok (.lst (a ++ b)) s else .stuck | _, _ => .stuck) := rfl
@[simp] theorem addD_tt (x y : Dx) (a b : List Dx) (s : Sto) : addD (.tup (x :: a)) (.tup (y :: b)) s = if (x :: a).length + (y :: b).length ≤ most then .ok (.tup ((x :: a) ++ (y :: b))) s else .stuck := rfl
@[simp] theorem subD_ii (i j : Int) (s : Sto) : subD (.int i) (.int j) s = .ok (.int (i - j)) s := rfl
@[simp] theorem addI_ii (i j : Int) (s : Sto) : addI (.int i) (.int j) s = .ok (.int (i + j)) s := rfl
@[simp] theorem B64_iff (i : Int) : B64 i ↔ (-18446744073709551616 < i ∧ i < 18446744073709551616) := Iff.rfl
@[simp] theorem mulD_ii (i j : Int) (s : Sto) : mulD (.int i) (.int j) s = if B64 i ∨ B64 j then .ok (.int (i * j)) s else .stuck := rfl
@[simp] theorem mulD_si (a : Tx) (j : Int) (s : Sto) : mulD (.str a) (.int j) s = if 0 ≤ j ∧ j ≤ 100 ∧ a.length ≤ 100 then .ok (.str (List.replicate j.toNat a).flatten) s else .stuck := rfl
@[simp] theorem mulD_li (a : List Dx) (j : Int) (s : Sto) : mulD (.lst a) (.int j) s = if 0 ≤ j ∧ j ≤ 10000 ∧ a.length ≤ 100 then .ok (.lst (List.replicate j.toNat a).flatten) s else .stuck := rfl
@[simp] theorem modD_ii (i j : Int) (s : Sto) : modD (.int i) (.int j) s = if 0 < j then .ok (.int (i % j)) s else .stuck := rfl
@[simp] theorem divD_ii (i j : Int) (s : Sto) : divD (.int i) (.int j) s = if 0 < j ∧ j < 18446744073709551616 then .ok (.int (i / j)) s else .stuck := rfl
@[simp] theorem negD_i (i : Int) (s : Sto) : negD (.int i) s = .ok (.int (-i)) s := rfl
@[simp] theorem cmpD_ii (p : Int → Int → Bool) (i j : Int) (s : Sto) : cmpD p (.int i) (.int j) s = .ok (.bl (p i j)) s := rfl
@[simp] theorem eqD_ii (i j : Int) (s : Sto) : eqD (.int i) (.int j) s = .ok (.bl (decide (i = j))) s := rfl
@[simp] theorem eqD_ss (a b : Tx) (s : Sto) : eqD (.str a) (.str b) s = .ok (.bl (decide (a = b))) s := rfl
@[simp] theorem eqD_bb (a b : Bool) (s : Sto) : eqD (.bl a) (.bl b) s = .ok (.bl ((a == b))) s := rfl
@[simp] theorem eqD_n_i  (i2 : Int) (s : Sto) : eqD .non (.int i2) s = .ok (.bl false) s := rfl
@[simp] theorem eqD_n_b  (b2 : Bool) (s : Sto) : eqD .non (.bl b2) s = .ok (.bl false) s := rfl
@[simp] theorem eqD_n_s  (z2 : Tx) (s : Sto) : eqD .non (.str z2) s = .ok (.bl false) s := rfl
@[simp] theorem eqD_i_n (i : Int)  (s : Sto) : eqD (.int i) .non s = .ok (.bl false) s := rfl
@[simp] theorem eqD_i_s (i : Int) (z2 : Tx) (s : Sto) : eqD (.int i) (.str z2) s = .ok (.bl false) s := rfl
@[simp] theorem eqD_b_n (b : Bool)  (s : Sto) : eqD (.bl b) .non s = .ok (.bl false) s := rfl
@[simp] theorem eqD_b_s (b : Bool) (z2 : Tx) (s : Sto) : eqD (.bl b) (.str z2) s = .ok (.bl false) s := rfl
@[simp] theorem eqD_s_n (z : Tx)  (s : Sto) : eqD (.str z) .non s = .ok (.bl false) s := rfl
@[simp] theorem eqD_s_i (z : Tx) (i2 : Int) (s : Sto) : eqD (.str z) (.int i2) s = .ok (.bl false) s := rfl
@[simp] theorem eqD_s_b (z : Tx) (b2 : Bool) (s : Sto) : eqD (.str z) (.bl b2) s = .ok (.bl false) s := rfl
@[simp] theorem eqD_nn (s : Sto) : eqD .non .non s = .ok (.bl true) s := rfl
@[simp] theorem eqD_ib (i : Int) (b : Bool) (s : Sto) : eqD (.int i) (.bl b) s = .ok (.bl ((i == (if b then 1 else 0)))) s := rfl
@[simp] theorem eqD_bi (i : Int) (b : Bool) (s : Sto) : eqD (.bl b) (.int i) s = .ok (.bl (((if b then 1 else 0) == i))) s := rfl
@[simp] theorem neD_ii (i j : Int) (s : Sto) : neD (.int i) (.int j) s = .ok (.bl (!decide (i = j))) s := rfl
@[simp] theorem neD_ss (a b : Tx) (s : Sto) : neD (.str a) (.str b) s = .ok (.bl (!decide (a = b))) s := rfl
@[simp] theorem neD_bb (a b : Bool) (s : Sto) : neD (.bl a) (.bl b) s = .ok (.bl (!(a == b))) s := rfl
@[simp] theorem neD_n_i  (i2 : Int) (s : Sto) : neD .non (.int i2) s = .ok (.bl true) s := rfl
@[simp] theorem neD_n_b  (b2 : Bool) (s : Sto) : neD .non (.bl b2) s = .ok (.bl true) s := rfl
@[simp] theorem neD_n_s  (z2 : Tx) (s : Sto) : neD .non (.str z2) s = .ok (.bl true) s := rfl
@[simp] theorem neD_i_n (i : Int)  (s : Sto) : neD (.int i) .non s = .ok (.bl true) s := rfl
@[simp] theorem neD_i_s (i : Int) (z2 : Tx) (s : Sto) : neD (.int i) (.str z2) s = .ok (.bl true) s := rfl
@[simp] theorem neD_b_n (b : Bool)  (s : Sto) : neD (.bl b) .non s = .ok (.bl true) s := rfl
@[simp] theorem neD_b_s (b : Bool) (z2 : Tx) (s : Sto) : neD (.bl b) (.str z2) s = .ok (.bl true) s := rfl
@[simp] theorem neD_s_n (z : Tx)  (s : Sto) : neD (.str z) .non s = .ok (.bl true) s := rfl
@[simp] theorem neD_s_i (z : Tx) (i2 : Int) (s : Sto) : neD (.str z) (.int i2) s = .ok (.bl true) s := rfl
@[simp] theorem neD_s_b (z : Tx) (b2 : Bool) (s : Sto) : neD (.str z) (.bl b2) s = .ok (.bl true) s := rfl
@[simp] theorem neD_nn (s : Sto) : neD .non .non s = .ok (.bl false) s := rfl
@[simp] theorem neD_ib (i : Int) (b : Bool) (s : Sto) : neD (.int i) (.bl b) s = .ok (.bl (!(i == (if b then 1 else 0)))) s := rfl
@[simp] theorem neD_bi (i : Int) (b : Bool) (s : Sto) : neD (.bl b) (.int i) s = .ok (.bl (!((if b then 1 else 0) == i))) s := rfl
@[simp] theorem isND_int (i : Int) (s : Sto) : isND (.int i) .non s = .ok (.bl false) s := rfl
@[simp] theorem isND_bl (b : Bool) (s : Sto) : isND (.bl b) .non s = .ok (.bl false) s := rfl
@[simp] theorem isND_str (z : Tx) (s : Sto) : isND (.str z) .non s = .ok (.bl false) s := rfl
@[simp] theorem isND_tup (xs : List Dx) (s : Sto) : isND (.tup xs) .non s = .ok (.bl false) s := rfl
@[simp] theorem isND_lst (xs : List Dx) (s : Sto) : isND (.lst xs) .non s = .ok (.bl false) s := rfl
@[simp] theorem isND_fro (xs : List Dx) (s : Sto) : isND (.fro xs) .non s = .ok (.bl false) s := rfl
@[simp] theorem isND_dct  (s : Sto) : isND .dct .non s = .ok (.bl false) s := rfl
@[simp] theorem isND_obj (C : String) (fs : Fs) (s : Sto) : isND (.obj C fs) .non s = .ok (.bl false) s := rfl
@[simp] theorem isND_cell (n : Nat) (s : Sto) : isND (.cell n) .non s = .ok (.bl false) s := rfl
@[simp] theorem isND_non (s : Sto) : isND .non .non s = .ok (.bl true) s := rfl
@[simp] theorem notND_int (i : Int) (s : Sto) : notND (.int i) .non s = .ok (.bl true) s := rfl
@[simp] theorem notND_bl (b : Bool) (s : Sto) : notND (.bl b) .non s = .ok (.bl true) s := rfl
@[simp] theorem notND_str (z : Tx) (s : Sto) : notND (.str z) .non s = .ok (.bl true) s := rfl
@[simp] theorem notND_tup (xs : List Dx) (s : Sto) : notND (.tup xs) .non s = .ok (.bl true) s := rfl
@[simp] theorem notND_lst (xs : List Dx) (s : Sto) : notND (.lst xs) .non s = .ok (.bl true) s := rfl
@[simp] theorem notND_fro (xs : List Dx) (s : Sto) : notND (.fro xs) .non s = .ok (.bl true) s := rfl
@[simp] theorem notND_dct  (s : Sto) : notND .dct .non s = .ok (.bl true) s := rfl
@[simp] theorem notND_obj (C : String) (fs : Fs) (s : Sto) : notND (.obj C fs) .non s = .ok (.bl true) s := rfl
@[simp] theorem notND_cell (n : Nat) (s : Sto) : notND (.cell n) .non s = .ok (.bl true) s := rfl
@[simp] theorem notND_non (s : Sto) : notND .non .non s = .ok (.bl false) s := rfl
@[simp] theorem isBD_bb (a b : Bool) (s : Sto) : isBD (.bl a) (.bl b) s = .ok (.bl (a == b)) s := rfl
@[simp] theorem inD_sc (neg : Bool) (c : Nat) (z : Tx) (s : Sto) : inD neg (.str [c]) (.str z) s = .ok (.bl (neg != decide (c ∈ z))) s := rfl
@[simp] theorem inD_tup (neg : Bool) (x : Dx) (ys : List Dx) (s : Sto) : inD neg x (.tup ys) s = if (flat x && ys.all flat) = true then .ok (.bl (neg != ys.any fun y => eqv y x)) s else .stuck := rfl
@[simp] theorem inD_lst (neg : Bool) (x : Dx) (ys : List Dx) (s : Sto) : inD neg x (.lst ys) s = if (flat x && ys.all flat) = true then .ok (.bl (neg != ys.any fun y => eqv y x)) s else .stuck := rfl
@[simp] theorem inD_fro (neg : Bool) (x : Dx) (ys : List Dx) (s : Sto) : inD neg x (.fro ys) s = if (flat x && ys.all flat) = true then .ok (.bl (neg != ys.any fun y => eqv y x)) s else .stuck := rfl
@[simp] theorem inD_cell (neg : Bool) (x : Dx) (n : Nat) (s : Sto) : inD neg x (.cell n) s = (match asQ s (.cell n) with | some ys => if (flat x && ys.all flat) = true then .ok (.bl (neg != ys.any fun y => eqv y x)) s else .stuck | none => .stuck) := rfl
@[simp] theorem ixD_tup (xs : List Dx) (i : Int) (s : Sto) : ixD (.tup xs) (.int i) s = (match pyIx xs i with | some d => .ok d s | none => .stuck) := rfl
@[simp] theorem ixD_lst (xs : List Dx) (i : Int) (s : Sto) : ixD (.lst xs) (.int i) s = (match pyIx xs i with | some d => .ok d s | none => .stuck) := rfl
@[simp] theorem ixD_fro (xs : List Dx) (i : Int) (s : Sto) : ixD (.fro xs) (.int i) s = (match pyIx xs i with | some d => .ok d s | none => .stuck) := rfl
@[simp] theorem ixD_cell (n : Nat) (i : Int) (s : Sto) : ixD (.cell n) (.int i) s = (match asQ s (.cell n) with | some xs => (match pyIx xs i with | some d => .ok d s | none => .stuck) | none => .stuck) := rfl
@[simp] theorem ixD_str (z : Tx) (i : Int) (s : Sto) : ixD (.str z) (.int i) s = (match pyIx z i with | some c => if z.length ≤ most then .ok (.str [c]) s else .stuck | none => .stuck) := rfl
@[simp] theorem slD_str (z : Tx) (lo hi : Option Int) (s : Sto) : slD (.str z) lo hi s = if z.length ≤ most then .ok (.str (cut z lo hi)) s else .stuck := rfl
@[simp] theorem slD_tup (xs : List Dx) (lo hi : Option Int) (s : Sto) : slD (.tup xs) lo hi s = if sIx xs.length 0 lo = 0 ∧ sIx xs.length xs.length hi = xs.length then .stuck else .ok (.tup (cut xs lo hi)) s := rfl
@[simp] theorem slD_lst (xs : List Dx) (lo hi : Option Int) (s : Sto) : slD (.lst xs) lo hi s = .ok (.lst (cut xs lo hi)) s := rfl
@[simp] theorem slD_fro (xs : List Dx) (lo hi : Option Int) (s : Sto) : slD (.fro xs) lo hi s = .ok (.lst (cut xs lo hi)) s := rfl
@[simp] theorem slD_cell (n : Nat) (lo hi : Option Int) (s : Sto) : slD (.cell n) lo hi s = (match asL s (.cell n) with | some xs => .ok (.lst (cut xs lo hi)) s | none => .stuck) := rfl
@[simp] theorem lenD_str (z : Tx) (s : Sto) : lenD [.str z] s = if z.length ≤ most then .ok (.int z.length) s else .stuck := rfl
@[simp] theorem lenD_tup (xs : List Dx) (s : Sto) : lenD [.tup xs] s = .ok (.int xs.length) s := rfl
@[simp] theorem lenD_lst (xs : List Dx) (s : Sto) : lenD [.lst xs] s = .ok (.int xs.length) s := rfl
@[simp] theorem lenD_fro (xs : List Dx) (s : Sto) : lenD [.fro xs] s = .ok (.int xs.length) s := rfl
@[simp] theorem lenD_cell (n : Nat) (s : Sto) : lenD [.cell n] s = (match asQ s (.cell n) with | some xs => .ok (.int xs.length) s | none => .stuck) := rfl
@[simp] theorem min2D_ii (i j : Int) (s : Sto) : min2D [.int i, .int j] s = .ok (.int (if j < i then j else i)) s := rfl
@[simp] theorem max2D_ii (i j : Int) (s : Sto) : max2D [.int i, .int j] s = .ok (.int (if i < j then j else i)) s := rfl
@[simp] theorem divmodD_ii (i j : Int) (s : Sto) : divmodD [.int i, .int j] s = if 0 < j ∧ j < 1073741824 then .ok (.tup [.int (i / j), .int (i % j)]) s else .stuck := rfl
@[simp] theorem toIntD_i (i : Int) (s : Sto) : toIntD [.int i] s = .ok (.int i) s := rfl
@[simp] theorem toIntD_b (b : Bool) (s : Sto) : toIntD [.bl b] s = .ok (.int (if b then 1 else 0)) s := rfl
@[simp] theorem strD_i (i : Int) (s : Sto) : strD [.int i] s = if -(10 ^ 100) ≤ i ∧ i ≤ 10 ^ 100 then .ok (.str (txI i)) s else .stuck := rfl
@[simp] theorem allD_lst (xs : List Dx) (s : Sto) : allD [.lst xs] s = (match dBools xs with | some l => .ok (.bl (l.all id)) s | none => .stuck) := rfl
@[simp] theorem allD_fro (xs : List Dx) (s : Sto) : allD [.fro xs] s = (match dBools xs with | some l => .ok (.bl (l.all id)) s | none => .stuck) := rfl
@[simp] theorem allD_cell (n : Nat) (s : Sto) : allD [.cell n] s = (match (asL s (.cell n)).bind dBools with | some l => .ok (.bl (l.all id)) s | none => .stuck) := rfl
@[simp] theorem anyD_lst (xs : List Dx) (s : Sto) : anyD [.lst xs] s = (match dBools xs with | some l => .ok (.bl (l.any id)) s | none => .stuck) := rfl
@[simp] theorem anyD_fro (xs : List Dx) (s : Sto) : anyD [.fro xs] s = (match dBools xs with | some l => .ok (.bl (l.any id)) s | none => .stuck) := rfl
@[simp] theorem anyD_cell (n : Nat) (s : Sto) : anyD [.cell n] s = (match (asL s (.cell n)).bind dBools with | some l => .ok (.bl (l.any id)) s | none => .stuck) := rfl
@[simp] theorem sumD_lst (xs : List Dx) (s : Sto) : sumD [.lst xs] s = (match dInts xs with | some l => .ok (.int l.sum) s | none => .stuck) := rfl
@[simp] theorem sumD_fro (xs : List Dx) (s : Sto) : sumD [.fro xs] s = (match dInts xs with | some l => .ok (.int l.sum) s | none => .stuck) := rfl
@[simp] theorem sumD_cell (n : Nat) (s : Sto) : sumD [.cell n] s = (match (asL s (.cell n)).bind dInts with | some l => .ok (.int l.sum) s | none => .stuck) := rfl
@[simp] theorem minD_lst (xs : List Dx) (s : Sto) : minD [.lst xs] s = (match dInts xs with | some (i :: l) => .ok (.int (leastOf i l)) s | _ => .stuck) := rfl
@[simp] theorem minD_fro (xs : List Dx) (s : Sto) : minD [.fro xs] s = (match dInts xs with | some (i :: l) => .ok (.int (leastOf i l)) s | _ => .stuck) := rfl
@[simp] theorem listD_tup (k : Bool) (xs : List Dx) (s : Sto) : listD k [.tup xs] s = newL k xs s := rfl
@[simp] theorem listD_lst (k : Bool) (xs : List Dx) (s : Sto) : listD k [.lst xs] s = newL k xs s := rfl
@[simp] theorem listD_fro (k : Bool) (xs : List Dx) (s : Sto) : listD k [.fro xs] s = newL k xs s := rfl
@[simp] theorem listD_cell (k : Bool) (n : Nat) (s : Sto) : listD k [.cell n] s = (match asQ s (.cell n) with | some xs => newL k xs s | none => .stuck) := rfl
@[simp] theorem tupD_tup (xs : List Dx) (s : Sto) : tupD [.tup xs] s = .ok (.tup xs) s := rfl
@[simp] theorem tupD_lst (xs : List Dx) (s : Sto) : tupD [.lst xs] s = .ok (.tup xs) s := rfl
@[simp] theorem tupD_fro (xs : List Dx) (s : Sto) : tupD [.fro xs] s = .ok (.tup xs) s := rfl
@[simp] theorem tupD_cell (n : Nat) (s : Sto) : tupD [.cell n] s = (match asL s (.cell n) with | some xs => .ok (.tup xs) s | none => .stuck) := rfl
@[simp] theorem lenSetD_lst (xs : List Dx) (s : Sto) : lenSetD [.lst xs] s = (match dStrs xs with | some l => if l.length ≤ 2000 then .ok (.int (unlike l)) s else .stuck | none => .stuck) := rfl
@[simp] theorem lenSetD_fro (xs : List Dx) (s : Sto) : lenSetD [.fro xs] s = (match dStrs xs with | some l => if l.length ≤ 2000 then .ok (.int (unlike l)) s else .stuck | none => .stuck) := rfl
@[simp] theorem lenSetD_cell (n : Nat) (s : Sto) : lenSetD [.cell n] s = (match (asL s (.cell n)).bind dStrs with | some l => if l.length ≤ 2000 then .ok (.int (unlike l)) s else .stuck | none => .stuck) := rfl
@[simp] theorem isiD_2 (d c : Dx) (s : Sto) : isiD [d, c] s = (match isD1 s d c with | some b => .ok (.bl b) s | none => .stuck) := rfl
@[simp] theorem pyIx_0 {α : Type} (xs : List α) : pyIx xs 0 = xs[0]? := rfl
@[simp] theorem pyIx_1 {α : Type} (xs : List α) : pyIx xs 1 = xs[1]? := rfl
@[simp] theorem pyIx_2 {α : Type} (xs : List α) : pyIx xs 2 = xs[2]? := rfl
@[simp] theorem pyIx_3 {α : Type} (xs : List α) : pyIx xs 3 = xs[3]? := rfl
@[simp] theorem pyIx_4 {α : Type} (xs : List α) : pyIx xs 4 = xs[4]? := rfl
@[simp] theorem pyIx_5 {α : Type} (xs : List α) : pyIx xs 5 = xs[5]? := rfl
@[simp] theorem pyIx_6 {α : Type} (xs : List α) : pyIx xs 6 = xs[6]? := rfl
@[simp] theorem pyIx_7 {α : Type} (xs : List α) : pyIx xs 7 = xs[7]? := rfl
@[simp] theorem pyIx_8 {α : Type} (xs : List α) : pyIx xs 8 = xs[8]? := rfl
@[simp] theorem pyIx_9 {α : Type} (xs : List α) : pyIx xs 9 = xs[9]? := rfl
@[simp] theorem asL_int (i : Int) (s : Sto) : asL s (.int i) = none := rfl
@[simp] theorem asL_bl (b : Bool) (s : Sto) : asL s (.bl b) = none := rfl
@[simp] theorem asL_non  (s : Sto) : asL s .non = none := rfl
@[simp] theorem asL_str (z : Tx) (s : Sto) : asL s (.str z) = none := rfl
@[simp] theorem asL_tup (xs : List Dx) (s : Sto) : asL s (.tup xs) = none := rfl
@[simp] theorem asL_lst (xs : List Dx) (s : Sto) : asL s (.lst xs) = some xs := rfl
@[simp] theorem asL_fro (xs : List Dx) (s : Sto) : asL s (.fro xs) = some xs := rfl
@[simp] theorem asL_dct  (s : Sto) : asL s .dct = none := rfl
@[simp] theorem asL_obj (C : String) (fs : Fs) (s : Sto) : asL s (.obj C fs) = none := rfl
@[simp] theorem asL_cell (n : Nat) (s : Sto) : asL s (.cell n) = (match s[n]? with | some (.lst xs) => some xs | _ => none) := rfl
@[simp] theorem asL_cls (C : String) (s : Sto) : asL s (.cls C) = none := rfl
@[simp] theorem asL_ty (b : String) (s : Sto) : asL s (.ty b) = none := rfl
@[simp] theorem asM_int (i : Int) (s : Sto) : asM s (.int i) = none := rfl
@[simp] theorem asM_bl (b : Bool) (s : Sto) : asM s (.bl b) = none := rfl
@[simp] theorem asM_non  (s : Sto) : asM s .non = none := rfl
@[simp] theorem asM_str (z : Tx) (s : Sto) : asM s (.str z) = none := rfl
@[simp] theorem asM_tup (xs : List Dx) (s : Sto) : asM s (.tup xs) = none := rfl
@[simp] theorem asM_lst (xs : List Dx) (s : Sto) : asM s (.lst xs) = some xs := rfl
@[simp] theorem asM_fro (xs : List Dx) (s : Sto) : asM s (.fro xs) = none := rfl
@[simp] theorem asM_dct  (s : Sto) : asM s .dct = none := rfl
@[simp] theorem asM_obj (C : String) (fs : Fs) (s : Sto) : asM s (.obj C fs) = none := rfl
@[simp] theorem asM_cell (n : Nat) (s : Sto) : asM s (.cell n) = (match s[n]? with | some (.lst xs) => some xs | _ => none) := rfl
@[simp] theorem asM_cls (C : String) (s : Sto) : asM s (.cls C) = none := rfl
@[simp] theorem asM_ty (b : String) (s : Sto) : asM s (.ty b) = none := rfl
@[simp] theorem asQ_int (i : Int) (s : Sto) : asQ s (.int i) = none := rfl
@[simp] theorem asQ_bl (b : Bool) (s : Sto) : asQ s (.bl b) = none := rfl
@[simp] theorem asQ_non  (s : Sto) : asQ s .non = none := rfl
@[simp] theorem asQ_str (z : Tx) (s : Sto) : asQ s (.str z) = none := rfl
@[simp] theorem asQ_tup (xs : List Dx) (s : Sto) : asQ s (.tup xs) = some xs := rfl
@[simp] theorem asQ_lst (xs : List Dx) (s : Sto) : asQ s (.lst xs) = some xs := rfl
@[simp] theorem asQ_fro (xs : List Dx) (s : Sto) : asQ s (.fro xs) = some xs := rfl
@[simp] theorem asQ_dct  (s : Sto) : asQ s .dct = none := rfl
@[simp] theorem asQ_obj (C : String) (fs : Fs) (s : Sto) : asQ s (.obj C fs) = none := rfl
@[simp] theorem asQ_cell (n : Nat) (s : Sto) : asQ s (.cell n) = (match s[n]? with | some (.lst xs) => some xs | _ => none) := rfl
@[simp] theorem asQ_cls (C : String) (s : Sto) : asQ s (.cls C) = none := rfl
@[simp] theorem asQ_ty (b : String) (s : Sto) : asQ s (.ty b) = none := rfl
@[simp] theorem asO_int (i : Int) (s : Sto) : asO s (.int i) = none := rfl
@[simp] theorem asO_bl (b : Bool) (s : Sto) : asO s (.bl b) = none := rfl
@[simp] theorem asO_non  (s : Sto) : asO s .non = none := rfl
@[simp] theorem asO_str (z : Tx) (s : Sto) : asO s (.str z) = none := rfl
@[simp] theorem asO_tup (xs : List Dx) (s : Sto) : asO s (.tup xs) = none := rfl
@[simp] theorem asO_lst (xs : List Dx) (s : Sto) : asO s (.lst xs) = none := rfl
@[simp] theorem asO_fro (xs : List Dx) (s : Sto) : asO s (.fro xs) = none := rfl
@[simp] theorem asO_dct  (s : Sto) : asO s .dct = none := rfl
@[simp] theorem asO_obj (C : String) (fs : Fs) (s : Sto) : asO s (.obj C fs) = some (C, fs) := rfl
@[simp] theorem asO_cell (n : Nat) (s : Sto) : asO s (.cell n) = (match s[n]? with | some (.obj C fs) => some (C, fs) | _ => none) := rfl
@[simp] theorem asO_cls (C : String) (s : Sto) : asO s (.cls C) = none := rfl
@[simp] theorem asO_ty (b : String) (s : Sto) : asO s (.ty b) = none := rfl
@[simp] theorem truD_int (i : Int) (s : Sto) : truD s (.int i) = some (i != 0) := rfl
@[simp] theorem truD_bl (b : Bool) (s : Sto) : truD s (.bl b) = some b := rfl
@[simp] theorem truD_non  (s : Sto) : truD s .non = some false := rfl
@[simp] theorem truD_str (z : Tx) (s : Sto) : truD s (.str z) = (if z.length ≤ most then some (!z.isEmpty) else none) := rfl
@[simp] theorem truD_tup (xs : List Dx) (s : Sto) : truD s (.tup xs) = some (!xs.isEmpty) := rfl
@[simp] theorem truD_lst (xs : List Dx) (s : Sto) : truD s (.lst xs) = some (!xs.isEmpty) := rfl
@[simp] theorem truD_fro (xs : List Dx) (s : Sto) : truD s (.fro xs) = some (!xs.isEmpty) := rfl
@[simp] theorem truD_dct  (s : Sto) : truD s .dct = none := rfl
@[simp] theorem truD_obj (C : String) (fs : Fs) (s : Sto) : truD s (.obj C fs) = none := rfl
@[simp] theorem truD_cell (n : Nat) (s : Sto) : truD s (.cell n) = Option.map (fun xs => !xs.isEmpty) (asQ s (.cell n)) := rfl
@[simp] theorem truD_cls (C : String) (s : Sto) : truD s (.cls C) = none := rfl
@[simp] theorem truD_ty (b : String) (s : Sto) : truD s (.ty b) = none := rfl
@[simp] theorem res_int (i : Int) (s : Sto) : res s (.int i) = (.int i) := rfl
@[simp] theorem res_bl (b : Bool) (s : Sto) : res s (.bl b) = (.bl b) := rfl
@[simp] theorem res_non  (s : Sto) : res s .non = .non := rfl
@[simp] theorem res_str (z : Tx) (s : Sto) : res s (.str z) = (.str z) := rfl
@[simp] theorem res_tup (xs : List Dx) (s : Sto) : res s (.tup xs) = (.tup xs) := rfl
@[simp] theorem res_lst (xs : List Dx) (s : Sto) : res s (.lst xs) = (.lst xs) := rfl
@[simp] theorem res_fro (xs : List Dx) (s : Sto) : res s (.fro xs) = (.fro xs) := rfl
@[simp] theorem res_dct  (s : Sto) : res s .dct = .dct := rfl
@[simp] theorem res_obj (C : String) (fs : Fs) (s : Sto) : res s (.obj C fs) = (.obj C fs) := rfl
@[simp] theorem res_cell (n : Nat) (s : Sto) : res s (.cell n) = (match s[n]? with | some (.lst xs) => .lst xs | _ => .cell n) := rfl
@[simp] theorem res_cls (C : String) (s : Sto) : res s (.cls C) = (.cls C) := rfl
@[simp] theorem res_ty (b : String) (s : Sto) : res s (.ty b) = (.ty b) := rfl
@[simp] theorem isTy_int (i : Int) (t : String) (s : Sto) : isTy s t (.int i) = some (decide (t = "int")) := rfl
@[simp] theorem isCl_int (i : Int) (X : String) (s : Sto) : isCl s X (.int i) = some false := rfl
@[simp] theorem isTy_bl (b : Bool) (t : String) (s : Sto) : isTy s t (.bl b) = some (decide (t = "bool") || decide (t = "int")) := rfl
@[simp] theorem isCl_bl (b : Bool) (X : String) (s : Sto) : isCl s X (.bl b) = some false := rfl
@[simp] theorem isTy_non  (t : String) (s : Sto) : isTy s t .non = some (decide (t = "NoneType")) := rfl
@[simp] theorem isCl_non  (X : String) (s : Sto) : isCl s X .non = some false := rfl
@[simp] theorem isTy_str (z : Tx) (t : String) (s : Sto) : isTy s t (.str z) = some (decide (t = "str")) := rfl
@[simp] theorem isCl_str (z : Tx) (X : String) (s : Sto) : isCl s X (.str z) = some false := rfl
@[simp] theorem isTy_tup (xs : List Dx) (t : String) (s : Sto) : isTy s t (.tup xs) = some (decide (t = "tuple")) := rfl
@[simp] theorem isCl_tup (xs : List Dx) (X : String) (s : Sto) : isCl s X (.tup xs) = some false := rfl
@[simp] theorem isTy_lst (xs : List Dx) (t : String) (s : Sto) : isTy s t (.lst xs) = some (decide (t = "list")) := rfl
@[simp] theorem isCl_lst (xs : List Dx) (X : String) (s : Sto) : isCl s X (.lst xs) = some false := rfl
@[simp] theorem isTy_fro (xs : List Dx) (t : String) (s : Sto) : isTy s t (.fro xs) = none := rfl
@[simp] theorem isCl_fro (xs : List Dx) (X : String) (s : Sto) : isCl s X (.fro xs) = none := rfl
@[simp] theorem isTy_dct  (t : String) (s : Sto) : isTy s t .dct = some (decide (t = "dict")) := rfl
@[simp] theorem isCl_dct  (X : String) (s : Sto) : isCl s X .dct = some false := rfl
@[simp] theorem isTy_obj (C : String) (fs : Fs) (t : String) (s : Sto) : isTy s t (.obj C fs) = some false := rfl
@[simp] theorem isCl_obj (C : String) (fs : Fs) (X : String) (s : Sto) : isCl s X (.obj C fs) = some (isSub C X) := rfl
@[simp] theorem isTy_cell (n : Nat) (t : String) (s : Sto) : isTy s t (.cell n) = (match s[n]? with | some (.lst _) => some (decide (t = "list")) | some (.obj _ _) => some false | none => none) := rfl
@[simp] theorem isCl_cell (n : Nat) (X : String) (s : Sto) : isCl s X (.cell n) = (match s[n]? with | some (.lst _) => some false | some (.obj C _) => some (isSub C X) | none => none) := rfl
@[simp] theorem isTy_cls (C : String) (t : String) (s : Sto) : isTy s t (.cls C) = none := rfl
@[simp] theorem isCl_cls (C : String) (X : String) (s : Sto) : isCl s X (.cls C) = none := rfl
@[simp] theorem isTy_ty (b : String) (t : String) (s : Sto) : isTy s t (.ty b) = none := rfl
@[simp] theorem isCl_ty (b : String) (X : String) (s : Sto) : isCl s X (.ty b) = none := rfl
@[simp] theorem isX_cls (C X : String) : isX C (.cls X) = (if inX X = true then some (isSubX C X) else none) := rfl
@[simp] theorem isX_ty (C b : String) : isX C (.ty b) = (if b = "ValueError" then some true else none) := rfl
@[simp] theorem isD1_cls (X : String) (d : Dx) (s : Sto) : isD1 s d (.cls X) = (if inT X = true then isCl s X d else none) := rfl
@[simp] theorem isD1_ty (b : String) (d : Dx) (s : Sto) : isD1 s d (.ty b) = (if bTys.contains b = true then isTy s b d else none) := rfl
end Pm

/-! # the pure readings are sound: worlds, relations, what is wanted of an outcome -/
namespace Ps
open PySem PySem.Spec PyProof.Rows L2 Vs He Pm
theorem ofS_inj {a b : String} (h : Str.ofString a = Str.ofString b) : a = b := by
  rw [Str.ofString_eq_toList, Str.ofString_eq_toList] at h
  injection h with h
  have h2 : (a.toList.map Char.toNat) = (b.toList.map Char.toNat) := by simpa using h
  exact tx_inj.mp h2
/-- a text -/
def tS (z : Tx) : Str := ⟨z.toArray⟩
theorem tS_tx (s : String) : Str.ofString s = tS (tx s) := Str.ofString_eq_toList s
theorem tS_inj {a b : Tx} (h : tS a = tS b) : a = b := by
  injection h with h
  simpa using h
theorem tS_len (z : Tx) : (tS z).length = z.length := by simp [tS, Str.length]
theorem tS_l (z : Tx) : (tS z).cps.toList = z := by simp [tS]
theorem tS_app (a b : Tx) : tS a ++ tS b = tS (a ++ b) := by
  show (⟨a.toArray ++ b.toArray⟩ : Str) = ⟨(a ++ b).toArray⟩
  simp
def okT (z : Tx) : Prop := ∀ c ∈ z, c < 0x110000
theorem okT_app {a b : Tx} (h : okT a) (k : okT b) : okT (a ++ b) := fun c hc => (List.mem_append.mp hc).elim (h c) (k c)
theorem okT_tx (s : String) : okT (tx s) := fun c hc => by
  unfold tx at hc
  obtain ⟨x, _, rfl⟩ := List.mem_map.mp hc
  have := x.valid
  unfold UInt32.isValidChar Nat.isValidChar at this
  have e : x.toNat = x.val.toNat := rfl
  omega
structure Px where
  /-- the exception that a suite holds, its slot -/
  x : Option (Addr × Value × Option Addr)
  i : Nat
  /-- the object that an __init__ fills -/
  f : Option (Addr × Addr × String)
structure Wd where
  r : List Addr
  h : List Addr
def hid (l : List Addr) (H : Hp) : Hp := fun a => if a ∈ l then none else H a
theorem hid_out {l : List Addr} {H : Hp} {a : Addr} (n : a ∉ l) : hid l H a = H a := by unfold hid; rw [if_neg n]
theorem hid_some {l : List Addr} {H : Hp} {a : Addr} {o : HO} (h : hid l H a = some o) : a ∉ l ∧ H a = some o := by
  unfold hid at h
  split at h
  · cases h
  · rename_i n; exact ⟨n, h⟩
theorem hid_same {l : List Addr} {H : Hp} : Same (hid l H) H := fun a o h => (hid_some h).2
abbrev Wd.G (w : Wd) (H : Hp) : Hp := hid (w.h ++ w.r) H
mutual
inductive Rv (K : PySem.W.Frag) (r : List Addr) (G : Hp) : V → Dx → Prop
  | non : Rv K r G .non .non
  | bl (b : Bool) : Rv K r G (.bl b) (.bl b)
  | int (i : Int) : Rv K r G (.int i) (.int i)
  | str {z : Tx} (h : okT z) : Rv K r G (.str (tS z)) (.str z)
  | tup {a : Addr} {vs : List V} {ds : List Dx} (h : SqT K G a vs) (l : RvL K r G vs ds) : Rv K r G (.ref a) (.tup ds)
  | lst {a : Addr} {vs : List V} {ds : List Dx} (h : G a = some (.lst vs)) (l : RvL K r G vs ds) : Rv K r G (.ref a) (.lst ds)
  | fro {a : Addr} {vs : List V} {ds : List Dx} (h : SqL K G a vs) (l : RvL K r G vs ds) : Rv K r G (.ref a) (.fro ds)
  | dct {a : Addr} (h : G a = some (.dK [])) : Rv K r G (.ref a) .dct
  | obj {a dx : Addr} {C : String} {gs : List (Str × V)} {fs : Fs} (h : G a = some (.ins (ga K C) dx gs)) (m : inT C = true) (f : (fs.all fun q => hasF C q.1) = true) (l : RvF K r G gs fs) : Rv K r G (.ref a) (.obj C fs)
  | cell {n : Nat} {a : Addr} (h : r[n]? = some a) : Rv K r G (.ref a) (.cell n)
  | cls {C : String} : Rv K r G (.ref (ga K C)) (.cls C)
  | ty {s : String} : Rv K r G (.ty s) (.ty s)
inductive RvL (K : PySem.W.Frag) (r : List Addr) (G : Hp) : List V → List Dx → Prop
  | nil : RvL K r G [] []
  | cons {v : V} {d : Dx} {vs : List V} {ds : List Dx} (h : Rv K r G v d) (l : RvL K r G vs ds) : RvL K r G (v :: vs) (d :: ds)
inductive RvF (K : PySem.W.Frag) (r : List Addr) (G : Hp) : List (Str × V) → Fs → Prop
  | nil : RvF K r G [] []
  | cons {f : String} {v : V} {d : Dx} {gs : List (Str × V)} {fs : Fs} (h : Rv K r G v d) (l : RvF K r G gs fs) : RvF K r G ((Str.ofString f, v) :: gs) ((f, d) :: fs)
end
/-- an exception's own dict -/
inductive Rx (K : PySem.W.Frag) (r : List Addr) (G : Hp) : Option Addr → Fs → Prop
  | no : Rx K r G none []
  | own {d : Addr} {gs : List (Str × V)} {fs : Fs} (k : G d = some (.xd gs)) (l : RvF K r G gs fs) : Rx K r G (some d) fs
def Pre (r r' : List Addr) : Prop := ∀ (n : Nat) (a : Addr), r[n]? = some a → r'[n]? = some a
theorem Pre.refl (r : List Addr) : Pre r r := fun _ _ h => h
theorem Pre.trans {a b c : List Addr} (h : Pre a b) (k : Pre b c) : Pre a c := fun n x e => k n x (h n x e)
theorem Pre.app (r t : List Addr) : Pre r (r ++ t) := fun n a h => by
  have hl : n < r.length := (List.getElem?_eq_some_iff.mp h).1
  rw [List.getElem?_append_left hl]; exact h
section
variable {K : PySem.W.Frag} {r r' : List Addr} {G G' : Hp}
theorem seqT_same {a : Addr} {xs : List V} (s : Same G G') (h : SqT K G a xs) : SqT K G' a xs := by
  rcases h with (h | ⟨o, h⟩) | h
  · exact .inl (.inl (s _ _ h))
  · exact .inl (.inr ⟨o, s _ _ h⟩)
  · exact .inr h
theorem seqL_same {a : Addr} {xs : List V} (s : Same G G') (h : SqL K G a xs) : SqL K G' a xs := by
  rcases h with (h | ⟨o, h⟩) | h
  · exact .inl (.inl (s _ _ h))
  · exact .inl (.inr ⟨o, s _ _ h⟩)
  · exact .inr h
mutual
theorem Rv.mono (s : Same G G') (e : Pre r r') : ∀ {v : V} {d : Dx}, Rv K r G v d → Rv K r' G' v d
  | _, _, .non => .non
  | _, _, .bl b => .bl b
  | _, _, .int i => .int i
  | _, _, .str h => .str h
  | _, _, .tup h l => .tup (seqT_same s h) (l.mono s e)
  | _, _, .lst h l => .lst (s _ _ h) (l.mono s e)
  | _, _, .fro h l => .fro (seqL_same s h) (l.mono s e)
  | _, _, .dct h => .dct (s _ _ h)
  | _, _, .obj h m f l => .obj (s _ _ h) m f (l.mono s e)
  | _, _, .cell h => .cell (e _ _ h)
  | _, _, .cls => .cls
  | _, _, .ty => .ty
theorem RvL.mono (s : Same G G') (e : Pre r r') : ∀ {v : List V} {d : List Dx}, RvL K r G v d → RvL K r' G' v d
  | _, _, .nil => .nil
  | _, _, .cons h l => .cons (h.mono s e) (l.mono s e)
theorem RvF.mono (s : Same G G') (e : Pre r r') : ∀ {v : List (Str × V)} {d : Fs}, RvF K r G v d → RvF K r' G' v d
  | _, _, .nil => .nil
  | _, _, .cons h l => .cons (h.mono s e) (l.mono s e)
end
theorem Rx.mono (s : Same G G') (e : Pre r r') {d : Option Addr} {fs : Fs} : Rx K r G d fs → Rx K r' G' d fs
  | .no => .no
  | .own k l => .own (s _ _ k) (l.mono s e)
theorem RvL.len : ∀ {vs : List V} {ds : List Dx}, RvL K r G vs ds → vs.length = ds.length
  | _, _, .nil => rfl
  | _, _, .cons _ l => congrArg (· + 1) l.len
theorem RvF.len : ∀ {vs : List (Str × V)} {ds : Fs}, RvF K r G vs ds → vs.length = ds.length
  | _, _, .nil => rfl
  | _, _, .cons _ l => congrArg (· + 1) l.len
theorem RvL.at_ : ∀ {vs : List V} {ds : List Dx}, RvL K r G vs ds → ∀ {i : Nat} {d : Dx}, ds[i]? = some d → ∃ v, vs[i]? = some v ∧ Rv K r G v d
  | _, _, .nil, i, v, e => by simp at e
  | _, _, .cons h l, 0, v, e => by
    simp only [List.getElem?_cons_zero, Option.some.injEq] at e
    subst e
    exact ⟨_, by simp, h⟩
  | _, _, .cons h l, i + 1, v, e => by
    simp only [List.getElem?_cons_succ] at e ⊢
    exact l.at_ e
theorem RvL.at' : ∀ {vs : List V} {ds : List Dx}, RvL K r G vs ds → ∀ {i : Nat} {v : V}, vs[i]? = some v → ∃ d, ds[i]? = some d ∧ Rv K r G v d
  | _, _, .nil, i, v, e => by simp at e
  | _, _, .cons h l, 0, v, e => by
    simp only [List.getElem?_cons_zero, Option.some.injEq] at e
    subst e
    exact ⟨_, by simp, h⟩
  | _, _, .cons h l, i + 1, v, e => by
    simp only [List.getElem?_cons_succ] at e ⊢
    exact l.at' e
theorem RvL.app : ∀ {vs us : List V} {ds es : List Dx}, RvL K r G vs ds → RvL K r G us es → RvL K r G (vs ++ us) (ds ++ es)
  | _, _, _, _, .nil, k => k
  | _, _, _, _, .cons h l, k => .cons h (l.app k)
theorem RvL.set : ∀ {vs : List V} {ds : List Dx} {v : V} {d : Dx}, RvL K r G vs ds → Rv K r G v d → ∀ n, RvL K r G (vs.set n v) (ds.set n d)
  | _, _, _, _, .nil, _, _ => .nil
  | _, _, _, _, .cons _ l, k, 0 => .cons k l
  | _, _, _, _, .cons h l, k, n + 1 => .cons h (l.set k n)
theorem RvL.drop : ∀ {vs : List V} {ds : List Dx}, RvL K r G vs ds → ∀ n, RvL K r G (vs.drop n) (ds.drop n)
  | _, _, h, 0 => h
  | _, _, .nil, _ + 1 => .nil
  | _, _, .cons _ l, n + 1 => l.drop n
theorem RvL.take : ∀ {vs : List V} {ds : List Dx}, RvL K r G vs ds → ∀ n, RvL K r G (vs.take n) (ds.take n)
  | _, _, _, 0 => .nil
  | _, _, .nil, _ + 1 => .nil
  | _, _, .cons h l, n + 1 => .cons h (l.take n)
theorem RvL.rep {vs : List V} {ds : List Dx} (h : RvL K r G vs ds) : ∀ n, RvL K r G (List.replicate n vs).flatten (List.replicate n ds).flatten
  | 0 => .nil
  | n + 1 => by
    rw [List.replicate_succ, List.flatten_cons, List.replicate_succ, List.flatten_cons]
    exact h.app (h.rep n)
theorem RvF.look : ∀ {gs : List (Str × V)} {fs : Fs}, RvF K r G gs fs → ∀ {f : String} {d : Dx}, fs.lookup f = some d → ∃ v, gs.lookup (Str.ofString f) = some v ∧ Rv K r G v d
  | _, _, .nil, f, d, e => by cases e
  | _, _, .cons (f := g) h l, f, d, e => by
    rw [List.lookup_cons] at e ⊢
    by_cases q : f = g
    · subst q
      simp only [beq_self_eq_true] at e ⊢
      cases e
      exact ⟨_, rfl, h⟩
    · have q1 : (f == g) = false := by simpa using q
      have q2 : (Str.ofString f == Str.ofString g) = false := by simpa using fun z => q (ofS_inj z)
      rw [q1] at e
      rw [q2]
      exact l.look e
theorem RvF.none : ∀ {gs : List (Str × V)} {fs : Fs}, RvF K r G gs fs → ∀ {f : String}, fs.lookup f = none → gs.lookup (Str.ofString f) = none
  | _, _, .nil, f, e => rfl
  | _, _, .cons (f := g) h l, f, e => by
    rw [List.lookup_cons] at e ⊢
    by_cases q : f = g
    · subst q
      simp only [beq_self_eq_true] at e
      cases e
    · have q1 : (f == g) = false := by simpa using q
      have q2 : (Str.ofString f == Str.ofString g) = false := by simpa using fun z => q (ofS_inj z)
      rw [q1] at e
      rw [q2]
      exact l.none e
theorem RvF.put {v : V} {d : Dx} (h : Rv K r G v d) (f : String) : ∀ {gs : List (Str × V)} {fs : Fs}, RvF K r G gs fs → RvF K r G (L2.putF (Str.ofString f) v gs) (putE f d fs)
  | _, _, .nil => .cons h .nil
  | _, _, .cons (f := g) k l => by
    unfold L2.putF putE
    by_cases q : g = f
    · subst q
      rw [if_pos rfl, if_pos rfl]
      exact .cons h l
    · rw [if_neg q, if_neg (fun z => q (ofS_inj z))]
      exact .cons k (l.put h f)
theorem putF_all {α : Type} {C f : String} {v : α} (h : hasF C f = true) : ∀ {fs : List (String × α)}, (fs.all fun q => hasF C q.1) = true → ((putE f v fs).all fun q => hasF C q.1) = true
  | [], _ => by simp [h]
  | (g, x) :: fs, k => by
    simp only [List.all_cons, Bool.and_eq_true] at k
    unfold putE
    split
    · simp [h, k.2]
    · simp [k.1, putF_all h k.2]
theorem RvL.ints : ∀ {ns : List Int}, RvL K r G (ns.map V.int) (ns.map Dx.int)
  | [] => .nil
  | _ :: _ => .cons (.int _) RvL.ints
theorem RvL.strs : ∀ {zs : List Tx}, (∀ z ∈ zs, okT z) → RvL K r G (zs.map fun z => V.str (tS z)) (zs.map Dx.str)
  | [], _ => .nil
  | _ :: _, h => .cons (.str (h _ List.mem_cons_self)) (RvL.strs fun z hz => h z (List.mem_cons_of_mem _ hz))
end
/-! ## the store -/
inductive Rc (K : PySem.W.Frag) (r : List Addr) (G : Hp) : HO → Cl → Prop
  | lst {vs : List V} {ds : List Dx} (l : RvL K r G vs ds) : Rc K r G (.lst vs) (.lst ds)
  | obj {dx : Addr} {C : String} {gs : List (Str × V)} {fs : Fs} (m : inT C = true) (f : (fs.all fun q => hasF C q.1) = true) (l : RvF K r G gs fs) : Rc K r G (.ins (ga K C) dx gs) (.obj C fs)
theorem Rc.mono {K : PySem.W.Frag} {r r' : List Addr} {G G' : Hp} (s : Same G G') (e : Pre r r') {o : HO} {c : Cl} : Rc K r G o c → Rc K r' G' o c
  | .lst l => .lst (l.mono s e)
  | .obj m f l => .obj m f (l.mono s e)
structure Rel (K : PySem.W.Frag) (w : Wd) (H : Hp) (s : Sto) : Prop where
  nd : (w.h ++ w.r).Nodup
  al : ∀ a ∈ w.h, H a ≠ none
  len : w.r.length = s.length
  ce : ∀ (n : Nat) (c : Cl), s[n]? = some c → ∃ a o, w.r[n]? = some a ∧ H a = some o ∧ Rc K w.r (w.G H) o c
structure Ext (z : List Addr) (w : Wd) (H : Hp) (w' : Wd) (H' : Hp) : Prop where
  h : w'.h = w.h
  r : ∃ t, w'.r = w.r ++ t
  s : Same (w.G H) (w'.G H')
  k : ∀ a ∈ w.h, a ∉ z → H' a = H a
theorem Ext.pre {z : List Addr} {w w' : Wd} {H H' : Hp} (e : Ext z w H w' H') : Pre w.r w'.r := by
  obtain ⟨t, h⟩ := e.r
  rw [h]; exact Pre.app _ _
theorem Ext.refl (z : List Addr) (w : Wd) (H : Hp) : Ext z w H w H := ⟨rfl, ⟨[], by simp⟩, Same.refl _, fun _ _ _ => rfl⟩
theorem Ext.trans {z : List Addr} {w w1 w2 : Wd} {H H1 H2 : Hp} (a : Ext z w H w1 H1) (b : Ext z w1 H1 w2 H2) : Ext z w H w2 H2 := by
  obtain ⟨t, ht⟩ := a.r
  obtain ⟨u, hu⟩ := b.r
  refine ⟨b.h.trans a.h, ⟨t ++ u, by rw [hu, ht, List.append_assoc]⟩, Same.trans a.s b.s, fun x hx n => ?_⟩
  rw [b.k x (by rw [a.h]; exact hx) n, a.k x hx n]
theorem Ext.weak {z : List Addr} {w w' : Wd} {H H' : Hp} (e : Ext [] w H w' H') : Ext z w H w' H' := ⟨e.h, e.r, e.s, fun a ha _ => e.k a ha (by simp)⟩
section
variable {K : PySem.W.Frag} {w w' : Wd} {H H' : Hp} {s : Sto}
theorem Rv.ext {z : List Addr} (e : Ext z w H w' H') {v : V} {d : Dx} (h : Rv K w.r (w.G H) v d) : Rv K w'.r (w'.G H') v d := h.mono e.s e.pre
theorem RvL.ext {z : List Addr} (e : Ext z w H w' H') {v : List V} {d : List Dx} (h : RvL K w.r (w.G H) v d) : RvL K w'.r (w'.G H') v d := h.mono e.s e.pre
theorem RvF.ext {z : List Addr} (e : Ext z w H w' H') {v : List (Str × V)} {d : Fs} (h : RvF K w.r (w.G H) v d) : RvF K w'.r (w'.G H') v d := h.mono e.s e.pre
theorem Rel.free (R : Rel K w H s) {a : Addr} (n : H a = none) : a ∉ w.h ++ w.r := fun h => by
  rcases List.mem_append.mp h with h | h
  · exact R.al a h n
  · obtain ⟨i, hi⟩ := List.getElem?_of_mem h
    have hl : i < s.length := by rw [← R.len]; exact (List.getElem?_eq_some_iff.mp hi).1
    obtain ⟨b, o, hb, ho, _⟩ := R.ce i s[i] (List.getElem?_eq_getElem hl)
    rw [hi] at hb
    cases hb
    rw [n] at ho
    cases ho
/-- the store's content stays, the rest grows -/
theorem Rel.keep (R : Rel K w H s) (k : ∀ a ∈ w.h ++ w.r, H' a = H a) (g : Same (w.G H) (w.G H')) : Rel K w H' s ∧ Ext [] w H w H' := by
  refine ⟨⟨R.nd, fun a ha => by rw [k a (List.mem_append_left _ ha)]; exact R.al a ha, R.len, fun n c hc => ?_⟩, ⟨rfl, ⟨[], by simp⟩, g, fun a ha _ => k a (List.mem_append_left _ ha)⟩⟩
  obtain ⟨a, o, h1, h2, h3⟩ := R.ce n c hc
  exact ⟨a, o, h1, by rw [k a (List.mem_append_right _ (List.mem_of_getElem? h1))]; exact h2, h3.mono g (Pre.refl _)⟩
/-- a new tree's object -/
theorem Rel.new (R : Rel K w H s) {a : Addr} (n : H a = none) (o : HO) : Rel K w (upd H a o) s ∧ Ext [] w H w (upd H a o) ∧ w.G (upd H a o) a = some o := by
  have nf := R.free n
  have g : Same (w.G H) (w.G (upd H a o)) := fun b u h => by
    obtain ⟨h1, h2⟩ := hid_some h
    show hid (w.h ++ w.r) (upd H a o) b = some u
    rw [hid_out h1, upd_ne (ne_of_none h2 n)]; exact h2
  obtain ⟨r1, e1⟩ := R.keep (H' := upd H a o) (fun b hb => upd_ne (fun z => nf (z ▸ hb))) g
  exact ⟨r1, e1, by show hid (w.h ++ w.r) (upd H a o) a = some o; rw [hid_out nf, upd_same]⟩
/-- a new cell -/
theorem Rel.newC (R : Rel K w H s) {a : Addr} (n : H a = none) {o : HO} {c : Cl} (hc : Rc K w.r (w.G H) o c) :
    Rel K ⟨w.r ++ [a], w.h⟩ (upd H a o) (s ++ [c]) ∧ Ext [] w H ⟨w.r ++ [a], w.h⟩ (upd H a o) := by
  have nf := R.free n
  have g : Same (w.G H) (Wd.G ⟨w.r ++ [a], w.h⟩ (upd H a o)) := fun b u h => by
    obtain ⟨h1, h2⟩ := hid_some h
    have nb := ne_of_none h2 n
    show hid (w.h ++ (w.r ++ [a])) (upd H a o) b = some u
    rw [hid_out, upd_ne nb]
    · exact h2
    · simp only [List.mem_append, List.mem_singleton] at h1 ⊢
      exact fun z => z.elim (fun z => h1 (.inl z)) fun z => z.elim (fun z => h1 (.inr z)) nb
  have nf2 : ∀ b ∈ w.h ++ w.r, b ≠ a := fun b hb z => nf (z ▸ hb)
  refine ⟨⟨?_, fun b hb => ?_, by simp [R.len], fun m d hd => ?_⟩, ⟨rfl, ⟨[a], rfl⟩, g, fun b hb _ => upd_ne (nf2 b (List.mem_append_left _ hb))⟩⟩
  · show (w.h ++ (w.r ++ [a])).Nodup
    rw [← List.append_assoc]
    refine List.nodup_append.mpr ⟨R.nd, by simp, fun x hx y hy => ?_⟩
    rw [List.mem_singleton] at hy
    subst hy
    exact nf2 x hx
  · rw [upd_ne (nf2 b (List.mem_append_left _ hb))]; exact R.al b hb
  · by_cases hm : m < s.length
    · rw [List.getElem?_append_left hm] at hd
      obtain ⟨b, u, h1, h2, h3⟩ := R.ce m d hd
      refine ⟨b, u, Pre.app _ _ _ _ h1, ?_, h3.mono g (Pre.app _ _)⟩
      rw [upd_ne (nf2 b (List.mem_append_right _ (List.mem_of_getElem? h1)))]; exact h2
    · have hm2 : m = s.length := by
        have := (List.getElem?_eq_some_iff.mp hd).1
        simp at this
        omega
      subst hm2
      simp at hd
      subst hd
      refine ⟨a, o, ?_, upd_same, hc.mono g (Pre.app _ _)⟩
      show (w.r ++ [a])[s.length]? = some a
      rw [← R.len]
      simp
/-- a cell's content changes -/
theorem Rel.put (R : Rel K w H s) {n : Nat} {a : Addr} {c : Cl} {o : HO} (ha : w.r[n]? = some a) (hc : Rc K w.r (w.G H) o c) : Rel K w (upd H a o) (s.set n c) ∧ Ext [] w H w (upd H a o) := by
  have am : a ∈ w.r := List.mem_of_getElem? ha
  have ah : a ∉ w.h := fun z => (List.nodup_append.mp R.nd).2.2 a z a am rfl
  have g : w.G (upd H a o) = w.G H := by
    funext b
    unfold Wd.G hid
    split
    · rfl
    · rename_i hb
      exact upd_ne fun z => hb (z ▸ List.mem_append_right _ am)
  have nh : ∀ b ∈ w.h, b ≠ a := fun b hb z => ah (z ▸ hb)
  refine ⟨⟨R.nd, fun b hb => ?_, by simp [R.len], fun m d hd => ?_⟩, ⟨rfl, ⟨[], by simp⟩, by rw [g]; exact Same.refl _, fun b hb _ => upd_ne (nh b hb)⟩⟩
  · rw [upd_ne (nh b hb)]; exact R.al b hb
  · rw [g]
    by_cases hm : n = m
    · subst hm
      have hl : n < s.length := by
        have := (List.getElem?_eq_some_iff.mp hd).1
        simpa using this
      rw [List.getElem?_set_self hl] at hd
      cases hd
      exact ⟨a, o, ha, upd_same, hc⟩
    · rw [List.getElem?_set_ne hm] at hd
      obtain ⟨b, u, h1, h2, h3⟩ := R.ce m d hd
      refine ⟨b, u, h1, ?_, h3⟩
      rw [upd_ne]
      · exact h2
      · rintro rfl
        have nr : w.r.Nodup := (List.nodup_append.mp R.nd).2.1
        have l1 := (List.getElem?_eq_some_iff.mp ha)
        have l2 := (List.getElem?_eq_some_iff.mp h1)
        obtain ⟨l1, e1⟩ := l1
        obtain ⟨l2, e2⟩ := l2
        exact hm ((List.getElem_inj nr).mp (e1.trans e2.symm))
/-- a cell's object -/
theorem Rel.at_ (R : Rel K w H s) {n : Nat} {a : Addr} {c : Cl} (ha : w.r[n]? = some a) (hc : s[n]? = some c) : ∃ o, H a = some o ∧ Rc K w.r (w.G H) o c := by
  obtain ⟨b, o, h1, h2, h3⟩ := R.ce n c hc
  rw [ha] at h1
  cases h1
  exact ⟨o, h2, h3⟩
end
/-! ## slots -/
def Px.z (p : Px) : List Addr := match p.f with
  | none => []
  | some (x, _, _) => [x]
/-- a slot that may be set -/
def Px.free (p : Px) (i : Nat) : Prop := (p.f = none ∨ i ≠ 0) ∧ (p.x = none ∨ i ≠ p.i)
def MeOk (K : PySem.W.Frag) (p : Px) (w : Wd) (H : Hp) (e : En) (σ : L2.St) : Prop := match p.f with
  | none => True
  | some (x, dx, C) => σ[0]? = some (some (.ref x)) ∧ e.sl[0]? = some none ∧ x ∈ w.h ∧ inT C = true ∧ (e.me.all fun q => hasF C q.1) = true ∧ ∃ gs, H x = some (.ins (ga K C) dx gs) ∧ RvF K w.r (w.G H) gs e.me
def ExOk (K : PySem.W.Frag) (p : Px) (w : Wd) (H : Hp) (e : En) (σ : L2.St) : Prop := match p.x with
  | none => e.ex = none
  | some (a, c, d) => σ[p.i]? = some (some (.ref a)) ∧ ∃ C fs, e.ex = some (C, fs) ∧ c = .ref (ga K C) ∧ inX C = true ∧ Rx K w.r (w.G H) d fs
structure RelE (K : PySem.W.Frag) (p : Px) (w : Wd) (H : Hp) (e : En) (σ : L2.St) : Prop where
  len : e.sl.length = σ.length
  sl : ∀ (i : Nat) (d : Dx), e.sl[i]? = some (some d) → ∃ v, σ[i]? = some (some v) ∧ Rv K w.r (w.G H) v d
  me : MeOk K p w H e σ
  ex : ExOk K p w H e σ
section
variable {K : PySem.W.Frag} {p : Px} {w w' : Wd} {H H' : Hp} {e : En} {σ : L2.St}
theorem RelE.ext' (E : RelE K p w H e σ) (s : Same (w.G H) (w'.G H')) (r : Pre w.r w'.r) (hh : ∀ a ∈ w.h, a ∈ w'.h ∧ H' a = H a) : RelE K p w' H' e σ := by
  refine ⟨E.len, fun i d h => ?_, ?_, ?_⟩
  · obtain ⟨v, h1, h2⟩ := E.sl i d h
    exact ⟨v, h1, h2.mono s r⟩
  · have m := E.me
    unfold MeOk at m ⊢
    split
    · trivial
    · rename_i a dx C q
      rw [q] at m
      obtain ⟨m1, m0, m2, m3, m4, gs, m5, m6⟩ := m
      exact ⟨m1, m0, (hh a m2).1, m3, m4, gs, by rw [(hh a m2).2]; exact m5, m6.mono s r⟩
  · have m := E.ex
    unfold ExOk at m ⊢
    split
    · rename_i q
      rw [q] at m
      exact m
    · rename_i a c d q
      rw [q] at m
      obtain ⟨m1, C, fs, m2, m3, m4, m5⟩ := m
      exact ⟨m1, C, fs, m2, m3, m4, m5.mono s r⟩
theorem RelE.ext (E : RelE K p w H e σ) (x : Ext [] w H w' H') : RelE K p w' H' e σ := E.ext' x.s x.pre fun a ha => ⟨by rw [x.h]; exact ha, x.k a ha (by simp)⟩
theorem RelE.put (E : RelE K p w H e σ) {i : Nat} (hf : p.free i) (z : Option V) (y : Option Dx) (h : ∀ d, y = some d → ∃ v, z = some v ∧ Rv K w.r (w.G H) v d) : RelE K p w H { e with sl := e.sl.set i y } (σ.set i z) := by
  refine ⟨by simp [E.len], fun j u hu => ?_, ?_, ?_⟩
  · by_cases q : i = j
    · subst q
      have hl : i < e.sl.length := by
        have := (List.getElem?_eq_some_iff.mp hu).1
        simpa using this
      have hu : (e.sl.set i y)[i]? = some (some u) := hu
      rw [List.getElem?_set_self hl] at hu
      cases hu
      obtain ⟨v, h1, h2⟩ := h u rfl
      exact ⟨v, by rw [List.getElem?_set_self (by rw [← E.len]; exact hl), h1], h2⟩
    · have hu : (e.sl.set i y)[j]? = some (some u) := hu
      rw [List.getElem?_set_ne q] at hu
      obtain ⟨v, h1, h2⟩ := E.sl j u hu
      exact ⟨v, by rw [List.getElem?_set_ne q]; exact h1, h2⟩
  · have m := E.me
    unfold MeOk at m ⊢
    split
    · trivial
    · rename_i a dx C q
      rw [q] at m
      have hi : i ≠ 0 := hf.1.elim (fun z => by rw [z] at q; cases q) id
      refine ⟨by rw [List.getElem?_set_ne hi]; exact m.1, ?_, m.2.2⟩
      show (e.sl.set i y)[0]? = some none
      rw [List.getElem?_set_ne hi]; exact m.2.1
  · have m := E.ex
    unfold ExOk at m ⊢
    split
    · rename_i q
      rw [q] at m
      exact m
    · rename_i a c d q
      rw [q] at m
      have hi : i ≠ p.i := hf.2.elim (fun z => by rw [z] at q; cases q) id
      exact ⟨by rw [List.getElem?_set_ne hi]; exact m.1, m.2⟩
theorem RelE.set (E : RelE K p w H e σ) {v : V} {d : Dx} (r : Rv K w.r (w.G H) v d) {i : Nat} (hf : p.free i) : RelE K p w H { e with sl := e.sl.set i (some d) } (σ.set i (some v)) := E.put hf (some v) (some d) fun u h => by cases h; exact ⟨v, rfl, r⟩
theorem RelE.clear (E : RelE K p w H e σ) {i : Nat} (hf : p.free i) : RelE K p w H { e with sl := e.sl.set i none } (σ.set i none) := E.put hf none none fun u h => by cases h
theorem RelE.wipe (E : RelE K p w H e σ) : ∀ ws : List Nat, (∀ i ∈ ws, p.free i) → RelE K p w H { e with sl := wipeE e.sl ws } (L2.wipe σ ws)
  | [], _ => E
  | v :: vs, hf => (E.wipe vs fun i h => hf i (List.mem_cons_of_mem _ h)).clear (hf v List.mem_cons_self)
end
/-! ## what is wanted of an outcome -/
def Fin {α β : Type} (K : PySem.W.Frag) (w : Wd) (H : Hp) (rel : List Addr → Hp → α → β → Prop) (Q : α → Hp → Prop) (X : XK) : R β → Prop
  | .ok d s => ∀ w' H' v, Ext [] w H w' H' → Rel K w' H' s → rel w'.r (w'.G H') v d → Q v H'
  | .exc C fs s => ∀ w' H' dx, Ext [] w H w' H' → Rel K w' H' s → inX C = true → Rx K w'.r (w'.G H') dx fs → X (.ref (ga K C)) dx H'
  | .stuck => False
def FinS (K : PySem.W.Frag) (p : Px) (w : Wd) (H : Hp) (D : Ends) (W : WX) : S → Prop
  | .nx e s => ∀ w' H' σ', Ext p.z w H w' H' → Rel K w' H' s → RelE K p w' H' e σ' → D.nx σ' H'
  | .bk e s => ∀ w' H' σ', Ext p.z w H w' H' → Rel K w' H' s → RelE K p w' H' e σ' → D.bk σ' H'
  | .ct e s => ∀ w' H' σ', Ext p.z w H w' H' → Rel K w' H' s → RelE K p w' H' e σ' → D.ct σ' H'
  | .rt d s => ∀ w' H' v, Ext p.z w H w' H' → Rel K w' H' s → Rv K w'.r (w'.G H') v d → D.rt v H'
  | .exc C fs e s => ∀ w' H' σ' dx, Ext p.z w H w' H' → Rel K w' H' s → RelE K p w' H' e σ' → inX C = true → Rx K w'.r (w'.G H') dx fs → W (.ref (ga K C)) dx σ' H'
  | .stuck => False
abbrev relB : List Addr → Hp → Bool → Bool → Prop := fun _ _ a b => a = b
abbrev relO : List Addr → Hp → Option Int → Option Int → Prop := fun _ _ a b => a = b
section
variable {K : PySem.W.Frag} {w w1 : Wd} {H H1 : Hp} {σ : L2.St} {e : En}
theorem Fin.ext {α β : Type} {rel : List Addr → Hp → α → β → Prop} {Q : α → Hp → Prop} {X : XK} {r : R β} (h : Fin K w H rel Q X r) (x : Ext [] w H w1 H1) : Fin K w1 H1 rel Q X r := by
  cases r with
  | ok d s => exact fun w' H' v y => h w' H' v (x.trans y)
  | exc C fs s => exact fun w' H' dx y => h w' H' dx (x.trans y)
  | stuck => exact h
theorem FinS.ext {D : Ends} {W : WX} {r : S} (h : FinS K p w H D W r) (x : Ext p.z w H w1 H1) : FinS K p w1 H1 D W r := by
  cases r with
  | nx e s => exact fun w' H' v y => h w' H' v (x.trans y)
  | bk e s => exact fun w' H' v y => h w' H' v (x.trans y)
  | ct e s => exact fun w' H' v y => h w' H' v (x.trans y)
  | rt d s => exact fun w' H' v y => h w' H' v (x.trans y)
  | exc C fs e s => exact fun w' H' v dx y => h w' H' v dx (x.trans y)
  | stuck => exact h
theorem Fin.bind {α β α' β' : Type} {rel : List Addr → Hp → α → β → Prop} {rel' : List Addr → Hp → α' → β' → Prop} {Q : α → Hp → Prop} {Q' : α' → Hp → Prop} {X : XK} {r : R β'} {k : β' → Sto → R β}
    (h : Fin K w H rel Q X (r.bind k)) (f : ∀ d s1 w1 H1 v, Ext [] w H w1 H1 → Rel K w1 H1 s1 → rel' w1.r (w1.G H1) v d → Fin K w1 H1 rel Q X (k d s1) → Q' v H1) : Fin K w H rel' Q' X r := by
  cases r with
  | ok d s => exact fun w' H' v x rl rv => f d s w' H' v x rl rv (Fin.ext h x)
  | exc C fs s => exact h
  | stuck => exact h
/-- an expression ahead of a statement's end -/
theorem FinS.bind {α' β' : Type} {rel' : List Addr → Hp → α' → β' → Prop} {D : Ends} {W : WX} {Q' : α' → Hp → Prop} {r : R β'} {k : β' → Sto → S} (E : RelE K p w H e σ)
    (h : FinS K p w H D W (r.s e k)) (f : ∀ d s1 w1 H1 v, Ext [] w H w1 H1 → Rel K w1 H1 s1 → rel' w1.r (w1.G H1) v d → FinS K p w1 H1 D W (k d s1) → Q' v H1) : Fin K w H rel' Q' (WE W σ) r := by
  cases r with
  | ok d s => exact fun w' H' v x rl rv => f d s w' H' v x rl rv (FinS.ext h x.weak)
  | exc C fs s => exact fun w' H' dx x rl hx rx => h w' H' σ dx x.weak rl (E.ext x) hx rx
  | stuck => exact h
theorem Fin.now {α β : Type} {rel : List Addr → Hp → α → β → Prop} {Q : α → Hp → Prop} {X : XK} {d : β} {s : Sto} {v : α} (h : Fin K w H rel Q X (.ok d s)) (rl : Rel K w H s) (rv : rel w.r (w.G H) v d) : Q v H := h w H v (Ext.refl _ _ _) rl rv
end
end Ps

/-! # soundness: operators, built-ins -/
namespace Ps
open PySem PySem.Spec PyProof.Rows L2 Vs He Pm
section
variable {K : PySem.W.Frag} {w : Wd} {H : Hp} {s : Sto}
theorem most_le {n : Nat} (h : n ≤ most) : n ≤ sizeLine := Nat.le_trans h (by rw [sizeLine_eq]; decide)
theorem most_lt {n : Nat} (h : n < most) : n < sizeLine := Nat.lt_of_lt_of_le h (by rw [sizeLine_eq]; decide)
theorem Rv.asM (R : Rel K w H s) {v : V} {d : Dx} (h : Rv K w.r (w.G H) v d) {xs : List Dx} (e : Pm.asM s d = some xs) : ∃ a vs, v = .ref a ∧ H a = some (.lst vs) ∧ RvL K w.r (w.G H) vs xs := by
  cases h with
  | lst h l => cases e; exact ⟨_, _, rfl, (hid_some h).2, l⟩
  | cell h =>
    simp only [Pm.asM] at e
    split at e
    · rename_i hc
      cases e
      obtain ⟨o, h1, h2⟩ := R.at_ h hc
      cases h2 with
      | lst l => exact ⟨_, _, rfl, h1, l⟩
    · cases e
  | _ => cases e
theorem Rv.asL (R : Rel K w H s) {v : V} {d : Dx} (h : Rv K w.r (w.G H) v d) {xs : List Dx} (e : Pm.asL s d = some xs) : ∃ a vs, v = .ref a ∧ SqL K H a vs ∧ RvL K w.r (w.G H) vs xs := by
  cases h with
  | lst h l => cases e; exact ⟨_, _, rfl, SqL.of (hid_some h).2, l⟩
  | fro h l => cases e; exact ⟨_, _, rfl, seqL_same hid_same h, l⟩
  | cell h =>
    simp only [Pm.asL] at e
    split at e
    · rename_i hc
      cases e
      obtain ⟨o, h1, h2⟩ := R.at_ h hc
      cases h2 with
      | lst l => exact ⟨_, _, rfl, SqL.of h1, l⟩
    · cases e
  | _ => cases e
theorem Rv.asQ (R : Rel K w H s) {v : V} {d : Dx} (h : Rv K w.r (w.G H) v d) {xs : List Dx} (e : Pm.asQ s d = some xs) : ∃ a vs, v = .ref a ∧ (SqL K H a vs ∨ SqT K H a vs) ∧ RvL K w.r (w.G H) vs xs := by
  have k : ∀ {d : Dx}, Rv K w.r (w.G H) v d → Pm.asL s d = some xs → ∃ a vs, v = .ref a ∧ (SqL K H a vs ∨ SqT K H a vs) ∧ RvL K w.r (w.G H) vs xs := fun h e => by
    obtain ⟨a, vs, h1, h2, h3⟩ := Rv.asL R h e
    exact ⟨a, vs, h1, .inl h2, h3⟩
  cases d with
  | tup ds => cases h with
    | tup h l => cases e; exact ⟨_, _, rfl, .inr (seqT_same hid_same h), l⟩
  | _ => exact k h e
theorem Rv.asO (R : Rel K w H s) {v : V} {d : Dx} (h : Rv K w.r (w.G H) v d) {C : String} {fs : Fs} (e : Pm.asO s d = some (C, fs)) :
    ∃ a dx gs, v = .ref a ∧ H a = some (.ins (ga K C) dx gs) ∧ inT C = true ∧ (fs.all fun q => hasF C q.1) = true ∧ RvF K w.r (w.G H) gs fs := by
  cases h with
  | obj h m f l => cases e; exact ⟨_, _, _, rfl, (hid_some h).2, m, f, l⟩
  | cell h =>
    simp only [Pm.asO] at e
    split at e
    · rename_i hc
      cases e
      obtain ⟨o, h1, h2⟩ := R.at_ h hc
      cases h2 with
      | obj m f l => exact ⟨_, _, _, rfl, h1, m, f, l⟩
    · cases e
  | _ => cases e
variable {Q : VK} {X : XK}
theorem Fin.tree {ds : List Dx} {vs : List V} {a : Addr} (h : Fin K w H (Rv K) Q X (.ok (.lst ds) s)) (R : Rel K w H s) (l : RvL K w.r (w.G H) vs ds) (n : H a = none) : Q (.ref a) (upd H a (.lst vs)) := by
  obtain ⟨r1, e1, g1⟩ := R.new n (.lst vs)
  exact h w _ _ e1 r1 (.lst g1 (l.ext e1))
theorem Fin.treeT {ds : List Dx} {vs : List V} {a : Addr} (h : Fin K w H (Rv K) Q X (.ok (.tup ds) s)) (R : Rel K w H s) (l : RvL K w.r (w.G H) vs ds) (n : H a = none) : Q (.ref a) (upd H a (.tup vs)) := by
  obtain ⟨r1, e1, g1⟩ := R.new n (.tup vs)
  exact h w _ _ e1 r1 (.tup (SqT.of g1) (l.ext e1))
theorem Fin.newL {c : Bool} {ds : List Dx} {vs : List V} {a : Addr} (h : Fin K w H (Rv K) Q X (Pm.newL c ds s)) (R : Rel K w H s) (l : RvL K w.r (w.G H) vs ds) (n : H a = none) : Q (.ref a) (upd H a (.lst vs)) := by
  cases c with
  | false => exact Fin.tree h R l n
  | true =>
    obtain ⟨r1, e1⟩ := R.newC n (Rc.lst l)
    refine h _ _ _ e1 r1 (.cell ?_)
    show (w.r ++ [a])[s.length]? = some a
    rw [← R.len]; simp
end
def SimO2 (K : PySem.W.Frag) (r : R2) (f : O2) : Prop := ∀ w H s x y d e Q X, Rel K w H s → Rv K w.r (w.G H) x d → Rv K w.r (w.G H) y e → Fin K w H (Rv K) Q X (f d e s) → r x y H Q
def SimO1 (K : PySem.W.Frag) (r : V → Hp → VK → Prop) (f : O1) : Prop := ∀ w H s x d Q X, Rel K w H s → Rv K w.r (w.G H) x d → Fin K w H (Rv K) Q X (f d s) → r x H Q
def SimF (K : PySem.W.Frag) (r : List V → Hp → VK → Prop) (f : MF) : Prop := ∀ w H s xs ds Q X, Rel K w H s → RvL K w.r (w.G H) xs ds → Fin K w H (Rv K) Q X (f ds s) → r xs H Q
/-- an operator's rule with what it computes -/
def OpM (X : Cx) (fn : Value → Value → Sem Value) (f : O2) : Prop := ∃ r, OpR X fn r ∧ SimO2 X.K r f
def CallM (X : Cx) (v : Value) (f : MF) : Prop := ∃ r, CallR X v r ∧ SimF X.K r f
section
variable {X : Cx}
theorem CDivW_of {i j : Int} (h0 : 0 < j) (h : j < 2 ^ 64) : CDivW i j := wide_div h0 (b := 64) (by omega) (by decide) (by decide)
theorem om_add : OpM X (binaryOp .Add) addD := by
  refine ⟨_, op_add.or (op_catS.or (op_catT.or op_cat)), ?_⟩
  intro w H s x y d e Q E R hx hy h
  unfold addD at h
  split at h
  · cases hx; cases hy
    exact .inl ⟨_, _, rfl, rfl, Fin.now h R (.int _)⟩
  · cases hx with | str hx =>
    cases hy with | str hy =>
    split at h
    · rename_i hl
      refine .inr (.inl ⟨_, _, rfl, rfl, ?_, ?_⟩)
      · rw [tS_len, tS_len]; exact most_le hl
      · rw [tS_app]; exact Fin.now h R (.str (okT_app hx hy))
    · exact h.elim
  · cases hx with | tup hx lx =>
    cases hy with | tup hy ly =>
    split at h
    · rename_i hl
      refine .inr (.inr (.inl ⟨_, _, _, _, rfl, rfl, seqT_same hid_same hx, seqT_same hid_same hy, ?_, ?_, ?_, fun _ a n => Fin.treeT h R (lx.app ly) n⟩))
      · intro z; subst z; cases lx
      · rw [lx.len, ly.len]; exact most_le hl
      · intro z; subst z; cases ly
    · exact h.elim
  · cases hx with | tup hx lx =>
    cases hy with | tup hy ly =>
    split at h
    · rename_i hl
      cases ly
      refine .inr (.inr (.inl ⟨_, _, _, _, rfl, rfl, seqT_same hid_same hx, seqT_same hid_same hy, ?_, ?_, fun _ => Fin.now h R (.tup hx lx), fun z => absurd rfl z⟩))
      · intro z; subst z; cases lx
      · rw [lx.len]; exact most_le (by simp only [List.length_cons, List.length_nil, most] at hl ⊢; omega)
    · exact h.elim
  · split at h
    · rename_i h1 h2
      obtain ⟨a, vs, rfl, ha, la⟩ := Rv.asM R hx h1
      obtain ⟨b, us, rfl, hb, lb⟩ := Rv.asM R hy h2
      split at h
      · rename_i hl
        exact .inr (.inr (.inr ⟨a, b, vs, us, rfl, rfl, ha, hb, by rw [la.len, lb.len]; exact most_le hl, fun q n => Fin.tree h R (la.app lb) n⟩))
      · exact h.elim
    · exact h.elim
theorem om_sub : OpM X (binaryOp .Sub) subD := by
  refine ⟨_, op_sub, ?_⟩
  intro w H s x y d e Q E R hx hy h
  unfold subD at h
  split at h
  · cases hx; cases hy
    exact ⟨_, _, rfl, rfl, Fin.now h R (.int _)⟩
  · exact h.elim
theorem mul_tS (z : Tx) (n : Int) (h0 : 0 ≤ n) : Txt.mul (tS z) n = tS (List.replicate n.toNat z).flatten := by
  have fold : ∀ (k : Nat) (acc : Tx), List.foldl (fun x1 x2 => x1 ++ x2) acc.toArray (List.replicate k z.toArray) = (acc ++ (List.replicate k z).flatten).toArray := by
    intro k
    induction k with
    | zero => intro acc; simp
    | succ k ih =>
      intro acc
      rw [List.replicate_succ, List.foldl_cons, List.append_toArray, ih, List.replicate_succ, List.flatten_cons, List.append_assoc]
  by_cases h1 : n < 1
  · have e : n.toNat = 0 := by omega
    unfold Txt.mul
    rw [if_pos h1, e]
    rfl
  by_cases h2 : n = 1
  · subst h2
    have e : (1 : Int).toNat = 1 := rfl
    unfold Txt.mul
    simp [tS]
  by_cases h3 : z = []
  · subst h3
    unfold Txt.mul
    simp [tS, Str.length, h1]
  · have h4 : z.length ≠ 0 := fun q => h3 (List.eq_nil_of_length_eq_zero q)
    unfold Txt.mul
    simp [tS, Str.length, h1, h2, h4]
    simpa using fold n.toNat []
theorem om_mul : OpM X (binaryOp .Mult) mulD := by
  refine ⟨_, op_mul.or (op_timS.or op_rep), ?_⟩
  intro w H s x y d e Q E R hx hy h
  unfold mulD at h
  split at h
  · cases hx; cases hy
    split at h
    · rename_i hc
      exact .inl ⟨_, _, rfl, rfl, hc, Fin.now h R (.int _)⟩
    · exact h.elim
  · cases hx with | str hx =>
    cases hy
    split at h
    · rename_i hc
      obtain ⟨c1, c2, c3⟩ := hc
      refine .inr (.inl ⟨_, _, rfl, rfl, ?_, ?_⟩)
      · rename_i a j
        have hm : (tS a).length * j.toNat ≤ 10000 := by
          rw [tS_len]
          have : a.length * j.toNat ≤ 100 * 100 := Nat.mul_le_mul c3 (by omega)
          omega
        refine ⟨by simp; omega, fun h1 _ => ?_, fun h1 _ => decide_eq_false (by rw [sizeLine_eq]; omega)⟩
        · rw [tS_len]
          have : (92233720368547758 : Int) ≤ (2 ^ 63 - 1) / j := by
            rw [Int.le_ediv_iff_mul_le (by omega)]
            omega
          omega
      · rw [mul_tS _ _ c1]
        refine Fin.now h R (.str ?_)
        intro c hc
        rw [List.mem_flatten] at hc
        obtain ⟨l, hl, hc⟩ := hc
        rw [List.mem_replicate] at hl
        exact hx c (hl.2 ▸ hc)
    · exact h.elim
  · cases hx with | lst hx lx =>
    cases hy
    split at h
    · rename_i hc
      obtain ⟨c1, c2, c3⟩ := hc
      refine .inr (.inr ⟨_, _, _, rfl, rfl, (hid_some hx).2, by omega, by omega, ?_, fun q n => Fin.tree h R (lx.rep _) n⟩)
      refine Nat.le_trans (Nat.mul_le_mul (by rw [lx.len]; exact c3) (show _ ≤ 10000 from by omega)) (by rw [sizeLine_eq]; decide)
    · exact h.elim
  · exact h.elim
theorem om_addC : OpM X (binaryOp .Add) addC := by
  refine ⟨_, op_cat, ?_⟩
  intro w H s x y d e Q E R hx hy h
  unfold addC at h
  split at h
  · rename_i h1 h2
    obtain ⟨a, vs, rfl, ha, la⟩ := Rv.asM R hx h1
    obtain ⟨b, us, rfl, hb, lb⟩ := Rv.asM R hy h2
    split at h
    · rename_i hl
      exact ⟨a, b, vs, us, rfl, rfl, ha, hb, by rw [la.len, lb.len]; exact most_le hl, fun q n => Fin.newL (c := true) h R (la.app lb) n⟩
    · exact h.elim
  · exact h.elim
theorem om_mulC : OpM X (binaryOp .Mult) mulC := by
  refine ⟨_, op_rep, ?_⟩
  intro w H s x y d e Q E R hx hy h
  unfold mulC at h
  split at h
  · cases hx with | lst hx lx =>
    cases hy
    split at h
    · rename_i hc
      obtain ⟨c1, c2, c3⟩ := hc
      refine ⟨_, _, _, rfl, rfl, (hid_some hx).2, by omega, by omega, ?_, fun q n => Fin.newL (c := true) h R (lx.rep _) n⟩
      refine Nat.le_trans (Nat.mul_le_mul (by rw [lx.len]; exact c3) (show _ ≤ 10000 from by omega)) (by rw [sizeLine_eq]; decide)
    · exact h.elim
  · exact h.elim
theorem om_mod : OpM X (binaryOp .Mod) modD := by
  refine ⟨_, op_mod, ?_⟩
  intro w H s x y d e Q E R hx hy h
  unfold modD at h
  split at h
  · cases hx; cases hy
    split at h
    · rename_i hc
      exact ⟨_, _, rfl, rfl, hc, Fin.now h R (.int _)⟩
    · exact h.elim
  · exact h.elim
theorem om_div : OpM X (binaryOp .FloorDiv) divD := by
  refine ⟨_, op_fdivW, ?_⟩
  intro w H s x y d e Q E R hx hy h
  unfold divD at h
  split at h
  · cases hx; cases hy
    split at h
    · rename_i hc
      exact ⟨_, _, rfl, rfl, CDivW_of hc.1 hc.2, Fin.now h R (.int _)⟩
    · exact h.elim
  · exact h.elim
theorem sim_cmp {K : PySem.W.Frag} (g : Int → Int → Bool) : SimO2 K (rI0 fun i j => .bl (g i j)) (cmpD g) := by
  intro w H s x y d e Q E R hx hy h
  unfold cmpD at h
  split at h
  · cases hx; cases hy
    exact ⟨_, _, rfl, rfl, Fin.now h R (.bl _)⟩
  · exact h.elim
theorem om_lt : OpM X (compareOp .Lt) ltD := ⟨_, op_lt, sim_cmp _⟩
theorem om_le : OpM X (compareOp .LtE) leD := ⟨_, op_le, sim_cmp _⟩
theorem om_gt : OpM X (compareOp .Gt) gtD := ⟨_, op_gt, sim_cmp _⟩
theorem om_ge : OpM X (compareOp .GtE) geD := ⟨_, op_ge, sim_cmp _⟩
end
/-! ## data compared -/
mutual
def py : Dx → PyData
  | .non => .none
  | .bl b => .bool b
  | .int i => .int i
  | .str z => .str (tS z)
  | .tup xs => .tuple (pyL xs)
  | .lst xs => .list (pyL xs)
  | .fro xs => .list (pyL xs)
  | _ => .dict []
def pyL : List Dx → List PyData
  | [] => []
  | x :: xs => py x :: pyL xs
end
theorem all_cons {n : Nat} {x : Dx} {xs : List Dx} (h : ((x :: xs).all (shp n)) = true) : shp n x = true ∧ (xs.all (shp n)) = true := by
  simpa using h
theorem shp_tup {n : Nat} {xs : List Dx} (h : shp n (.tup xs) = true) : ∃ m, n = m + 1 ∧ (xs.all (shp m)) = true := by
  cases n with
  | zero => simp [shp] at h
  | succ m => exact ⟨m, rfl, by simpa [shp] using h⟩
theorem shp_lst {n : Nat} {xs : List Dx} (h : shp n (.lst xs) = true) : ∃ m, n = m + 1 ∧ (xs.all (shp m)) = true := by
  cases n with
  | zero => simp [shp] at h
  | succ m => exact ⟨m, rfl, by simpa [shp] using h⟩
theorem shp_fro {n : Nat} {xs : List Dx} (h : shp n (.fro xs) = true) : ∃ m, n = m + 1 ∧ (xs.all (shp m)) = true := by
  cases n with
  | zero => simp [shp] at h
  | succ m => exact ⟨m, rfl, by simpa [shp] using h⟩
theorem shp_no {n : Nat} {d : Dx} (h : shp n d = true) : (∀ C fs, d ≠ .obj C fs) ∧ (∀ m, d ≠ .cell m) ∧ (∀ C, d ≠ .cls C) ∧ (∀ b, d ≠ .ty b) ∧ d ≠ .dct := by
  refine ⟨?_, ?_, ?_, ?_, ?_⟩ <;> intros <;> rintro rfl <;> simp [shp] at h
section
variable {K : PySem.W.Frag} {r : List Addr} {G : Hp}
mutual
theorem Rv.dp : ∀ {v : V} {d : Dx}, Rv K r G v d → ∀ {n : Nat}, shp n d = true → Dp K G v (py d) ∧ (py d).canLay0 = true ∧ (py d).depth ≤ n
  | _, _, .non, n, _ => ⟨.non, rfl, Nat.zero_le _⟩
  | _, _, .bl b, n, _ => ⟨.bl b, rfl, Nat.zero_le _⟩
  | _, _, .int i, n, _ => ⟨.int i, rfl, Nat.zero_le _⟩
  | _, _, .str h, n, _ => ⟨.str _, by
      show PyData.strOk _ = true
      unfold PyData.strOk tS
      rw [Array.all_eq_true']
      intro c hc
      exact decide_eq_true (h c (by simpa using hc)), Nat.zero_le _⟩
  | _, _, .tup h l, n, k => by
    obtain ⟨m, rfl, k⟩ := shp_tup k
    obtain ⟨a, b, c⟩ := l.dp k
    exact ⟨.tup h a, b, Nat.succ_le_succ c⟩
  | _, _, .lst h l, n, k => by
    obtain ⟨m, rfl, k⟩ := shp_lst k
    obtain ⟨a, b, c⟩ := l.dp k
    exact ⟨.lst (SqL.of h) a, b, Nat.succ_le_succ c⟩
  | _, _, .fro h l, n, k => by
    obtain ⟨m, rfl, k⟩ := shp_fro k
    obtain ⟨a, b, c⟩ := l.dp k
    exact ⟨.lst h a, b, Nat.succ_le_succ c⟩
  | _, _, .dct h, n, k => absurd rfl (shp_no k).2.2.2.2
  | _, _, .obj h m f l, n, k => absurd rfl ((shp_no k).1 _ _)
  | _, _, .cell h, n, k => absurd rfl ((shp_no k).2.1 _)
  | _, _, .cls, n, k => absurd rfl ((shp_no k).2.2.1 _)
  | _, _, .ty, n, k => absurd rfl ((shp_no k).2.2.2.1 _)
theorem RvL.dp : ∀ {v : List V} {d : List Dx}, RvL K r G v d → ∀ {n : Nat}, (d.all (shp n)) = true → DpAll K G v (pyL d) ∧ PyData.canLayAll0 (pyL d) = true ∧ PyData.depthAll (pyL d) ≤ n
  | _, _, .nil, n, _ => ⟨.nil, rfl, Nat.zero_le _⟩
  | _, _, .cons h l, n, k => by
    obtain ⟨k1, k2⟩ := all_cons k
    obtain ⟨a1, b1, c1⟩ := h.dp k1
    obtain ⟨a2, b2, c2⟩ := l.dp k2
    exact ⟨.cons a1 a2, by show (_ && _) = true; rw [b1, b2]; rfl, Nat.max_le.mpr ⟨c1, c2⟩⟩
end
end
mutual
theorem eqv_py : ∀ (x y : Dx) (n m : Nat), shp n x = true → shp m y = true → PyData.eqv (py x) (py y) = eqv x y
  | .tup xs, .tup ys, n, m, h, k => by
    obtain ⟨n, rfl, h⟩ := shp_tup h
    obtain ⟨m, rfl, k⟩ := shp_tup k
    simpa [py, PyData.eqv, eqv] using eqvL_py xs ys n m h k
  | .lst xs, .lst ys, n, m, h, k => by
    obtain ⟨n, rfl, h⟩ := shp_lst h
    obtain ⟨m, rfl, k⟩ := shp_lst k
    simpa [py, PyData.eqv, eqv] using eqvL_py xs ys n m h k
  | .lst xs, .fro ys, n, m, h, k => by
    obtain ⟨n, rfl, h⟩ := shp_lst h
    obtain ⟨m, rfl, k⟩ := shp_fro k
    simpa [py, PyData.eqv, eqv] using eqvL_py xs ys n m h k
  | .fro xs, .lst ys, n, m, h, k => by
    obtain ⟨n, rfl, h⟩ := shp_fro h
    obtain ⟨m, rfl, k⟩ := shp_lst k
    simpa [py, PyData.eqv, eqv] using eqvL_py xs ys n m h k
  | .fro xs, .fro ys, n, m, h, k => by
    obtain ⟨n, rfl, h⟩ := shp_fro h
    obtain ⟨m, rfl, k⟩ := shp_fro k
    simpa [py, PyData.eqv, eqv] using eqvL_py xs ys n m h k
  | .str a, .str b, n, m, _, _ => by
    simp only [py, PyData.eqv, eqv]
    rw [Bool.eq_iff_iff]
    simp only [beq_iff_eq, decide_eq_true_eq]
    exact ⟨tS_inj, fun z => by rw [z]⟩
  | .int a, .int b, _, _, _, _ => by
    simp only [py, PyData.eqv, eqv]
    rw [Bool.eq_iff_iff]
    simp
  | .non, y, _, _, _, k => by cases y <;> first | rfl | (simp [shp] at k)
  | .bl a, y, _, _, _, k => by cases y <;> first | rfl | (simp [shp] at k)
  | .int a, .non, _, _, _, _ => rfl
  | .int a, .bl b, _, _, _, _ => rfl
  | .int a, .str b, _, _, _, _ => rfl
  | .int a, .tup b, _, _, _, _ => rfl
  | .int a, .lst b, _, _, _, _ => rfl
  | .int a, .fro b, _, _, _, _ => rfl
  | .int a, .dct, _, _, _, k => by simp [shp] at k
  | .int a, .obj _ _, _, _, _, k => by simp [shp] at k
  | .int a, .cell _, _, _, _, k => by simp [shp] at k
  | .int a, .cls _, _, _, _, k => by simp [shp] at k
  | .int a, .ty _, _, _, _, k => by simp [shp] at k
  | .str a, .non, _, _, _, _ => rfl
  | .str a, .bl b, _, _, _, _ => rfl
  | .str a, .int b, _, _, _, _ => rfl
  | .str a, .tup b, _, _, _, _ => rfl
  | .str a, .lst b, _, _, _, _ => rfl
  | .str a, .fro b, _, _, _, _ => rfl
  | .str a, .dct, _, _, _, k => by simp [shp] at k
  | .str a, .obj _ _, _, _, _, k => by simp [shp] at k
  | .str a, .cell _, _, _, _, k => by simp [shp] at k
  | .str a, .cls _, _, _, _, k => by simp [shp] at k
  | .str a, .ty _, _, _, _, k => by simp [shp] at k
  | .tup a, .non, _, _, _, _ => rfl
  | .tup a, .bl b, _, _, _, _ => rfl
  | .tup a, .int b, _, _, _, _ => rfl
  | .tup a, .str b, _, _, _, _ => rfl
  | .tup a, .lst b, _, _, _, _ => rfl
  | .tup a, .fro b, _, _, _, _ => rfl
  | .tup a, .dct, _, _, _, k => by simp [shp] at k
  | .tup a, .obj _ _, _, _, _, k => by simp [shp] at k
  | .tup a, .cell _, _, _, _, k => by simp [shp] at k
  | .tup a, .cls _, _, _, _, k => by simp [shp] at k
  | .tup a, .ty _, _, _, _, k => by simp [shp] at k
  | .lst a, .non, _, _, _, _ => rfl
  | .lst a, .bl b, _, _, _, _ => rfl
  | .lst a, .int b, _, _, _, _ => rfl
  | .lst a, .str b, _, _, _, _ => rfl
  | .lst a, .tup b, _, _, _, _ => rfl
  | .lst a, .dct, _, _, _, k => by simp [shp] at k
  | .lst a, .obj _ _, _, _, _, k => by simp [shp] at k
  | .lst a, .cell _, _, _, _, k => by simp [shp] at k
  | .lst a, .cls _, _, _, _, k => by simp [shp] at k
  | .lst a, .ty _, _, _, _, k => by simp [shp] at k
  | .fro a, .non, _, _, _, _ => rfl
  | .fro a, .bl b, _, _, _, _ => rfl
  | .fro a, .int b, _, _, _, _ => rfl
  | .fro a, .str b, _, _, _, _ => rfl
  | .fro a, .tup b, _, _, _, _ => rfl
  | .fro a, .dct, _, _, _, k => by simp [shp] at k
  | .fro a, .obj _ _, _, _, _, k => by simp [shp] at k
  | .fro a, .cell _, _, _, _, k => by simp [shp] at k
  | .fro a, .cls _, _, _, _, k => by simp [shp] at k
  | .fro a, .ty _, _, _, _, k => by simp [shp] at k
  | .dct, _, _, _, h, _ => by simp [shp] at h
  | .obj _ _, _, _, _, h, _ => by simp [shp] at h
  | .cell _, _, _, _, h, _ => by simp [shp] at h
  | .cls _, _, _, _, h, _ => by simp [shp] at h
  | .ty _, _, _, _, h, _ => by simp [shp] at h
theorem eqvL_py : ∀ (xs ys : List Dx) (n m : Nat), (xs.all (shp n)) = true → (ys.all (shp m)) = true → PyData.eqvAll (pyL xs) (pyL ys) = eqvL xs ys
  | [], [], _, _, _, _ => rfl
  | [], _ :: _, _, _, _, _ => rfl
  | _ :: _, [], _, _, _, _ => rfl
  | x :: xs, y :: ys, n, m, h, k => by
    obtain ⟨h1, h2⟩ := all_cons h
    obtain ⟨k1, k2⟩ := all_cons k
    show (PyData.eqv (py x) (py y) && PyData.eqvAll (pyL xs) (pyL ys)) = (eqv x y && eqvL xs ys)
    rw [eqv_py x y n m h1 k1, eqvL_py xs ys n m h2 k2]
end
mutual
theorem Dp.same {K : PySem.W.Frag} {G G' : Hp} (s : Same G G') : ∀ {v : V} {d : PyData}, Dp K G v d → Dp K G' v d
  | _, _, .non => .non
  | _, _, .bl b => .bl b
  | _, _, .int i => .int i
  | _, _, .str z => .str z
  | _, _, .lst h l => .lst (seqL_same s h) (DpAll.same s l)
  | _, _, .tup h l => .tup (seqT_same s h) (DpAll.same s l)
theorem DpAll.same {K : PySem.W.Frag} {G G' : Hp} (s : Same G G') : ∀ {v : List V} {d : List PyData}, DpAll K G v d → DpAll K G' v d
  | _, _, .nil => .nil
  | _, _, .cons h l => .cons (Dp.same s h) (DpAll.same s l)
end
section
variable {K : PySem.W.Frag} {w : Wd} {H : Hp} {s : Sto}
theorem Rv.res (R : Rel K w H s) {v : V} {d : Dx} (h : Rv K w.r (w.G H) v d) {n : Nat} (k : shp n (Pm.res s d) = true) : Dp K H v (py (Pm.res s d)) ∧ SeqAt.shaped (py (Pm.res s d)) = true ∨ 64 < n := by
  by_cases hn : 64 < n
  · exact .inr hn
  left
  have fin : ∀ {d : Dx}, shp n d = true → Dp K H v (py d) ∧ (py d).canLay0 = true ∧ (py d).depth ≤ n → Dp K H v (py d) ∧ SeqAt.shaped (py d) = true := fun _ ⟨a, b, c⟩ => by
    refine ⟨a, ?_⟩
    unfold SeqAt.shaped
    rw [b, decide_eq_true (by omega)]
    rfl
  refine fin k ?_
  by_cases hc : ∃ m, d = .cell m
  · obtain ⟨m, rfl⟩ := hc
    cases h with
    | cell h =>
      have e : ∃ xs, s[m]? = some (.lst xs) ∧ Pm.res s (.cell m) = .lst xs := by
        cases hs : s[m]? with
        | none => simp [Pm.res, hs, shp] at k
        | some c =>
          cases c with
          | lst xs => exact ⟨xs, rfl, by simp [Pm.res, hs]⟩
          | obj C fs => simp [Pm.res, hs, shp] at k
      obtain ⟨xs, hx, e⟩ := e
      rw [e] at k ⊢
      obtain ⟨o, h1, h2⟩ := R.at_ h hx
      obtain ⟨n, rfl, k⟩ := shp_lst k
      cases h2 with
      | lst l =>
        obtain ⟨a, b, c⟩ := l.dp k
        exact ⟨.lst (SqL.of h1) (DpAll.same hid_same a), b, Nat.succ_le_succ c⟩
  · have e : Pm.res s d = d := by
      cases d <;> first | rfl | exact absurd ⟨_, rfl⟩ hc
    rw [e] at k ⊢
    obtain ⟨a, b, c⟩ := h.dp k
    exact ⟨Dp.same hid_same a, b, c⟩
end
section
variable {X : Cx}
theorem om_eq (hu : X.A.units + 64 < cLine) : OpM X (compareOp .Eq) eqD := by
  refine ⟨_, op_eqD hu, ?_⟩
  intro w H s x y d e Q E R hx hy h
  unfold eqD at h
  split at h
  · rename_i hc
    simp only [Bool.and_eq_true] at hc
    rcases hx.res R hc.1 with ⟨a1, b1⟩ | z
    · rcases hy.res R hc.2 with ⟨a2, b2⟩ | z
      · refine ⟨_, _, a1, a2, b1, b2, ?_⟩
        rw [eqv_py _ _ _ _ hc.1 hc.2]
        exact Fin.now h R (.bl _)
      · omega
    · omega
  · exact h.elim
theorem om_ne (hu : X.A.units + 64 < cLine) : OpM X (compareOp .NotEq) neD := by
  refine ⟨_, op_neD hu, ?_⟩
  intro w H s x y d e Q E R hx hy h
  unfold neD at h
  split at h
  · rename_i hc
    simp only [Bool.and_eq_true] at hc
    rcases hx.res R hc.1 with ⟨a1, b1⟩ | z
    · rcases hy.res R hc.2 with ⟨a2, b2⟩ | z
      · refine ⟨_, _, a1, a2, b1, b2, ?_⟩
        rw [eqv_py _ _ _ _ hc.1 hc.2]
        exact Fin.now h R (.bl _)
      · omega
    · omega
  · exact h.elim
theorem om_isN : OpM X (compareOp .Is) isND := by
  refine ⟨_, op_isN, ?_⟩
  intro w H s x y d e Q E R hx hy h
  cases hy
  case non =>
    refine ⟨rfl, ?_⟩
    cases hx <;> exact Fin.now (v := .bl _) h R (by first | exact .bl true | exact .bl false)
  all_goals (cases d <;> exact h.elim)
theorem om_notN : OpM X (compareOp .IsNot) notND := by
  refine ⟨_, op_notN, ?_⟩
  intro w H s x y d e Q E R hx hy h
  cases hy
  case non =>
    refine ⟨rfl, ?_⟩
    cases hx <;> exact Fin.now (v := .bl _) h R (by first | exact .bl true | exact .bl false)
  all_goals (cases d <;> exact h.elim)
theorem om_isB : OpM X (compareOp .Is) isBD := by
  refine ⟨_, op_isBl, ?_⟩
  intro w H s x y d e Q E R hx hy h
  unfold isBD at h
  split at h
  · cases hx; cases hy
    refine ⟨_, _, rfl, rfl, ?_⟩
    rw [← Bool.beq_eq_decide_eq]
    exact Fin.now h R (.bl _)
  · exact h.elim
end
end Ps

/-! # soundness: more operators, built-ins -/
namespace Ps
open PySem PySem.Spec PyProof.Rows L2 Vs He Pm
section
variable {K : PySem.W.Frag} {w : Wd} {H : Hp} {s : Sto}
theorem flat_V {r : List Addr} {G : Hp} {v : V} {d : Dx} (h : Rv K r G v d) (f : flat d = true) : flatV v = true := by
  cases h <;> first | rfl | (simp [flat] at f)
theorem eq_flat {r : List Addr} {G : Hp} {v u : V} {d e : Dx} (h : Rv K r G v d) (k : Rv K r G u e) (f : flat d = true) (g : flat e = true) : eqV v u = eqv d e := by
  cases h <;> first | (simp [flat] at f; done) | skip
  all_goals cases k <;> first | (simp [flat] at g; done) | rfl | skip
  all_goals simp only [eqV, eqv]
  all_goals rw [Bool.eq_iff_iff]
  all_goals simp
  exact ⟨tS_inj, fun z => by rw [z]⟩
theorem all_flat {r : List Addr} {G : Hp} : ∀ {vs : List V} {ds : List Dx}, RvL K r G vs ds → ds.all flat = true → vs.all flatV = true
  | _, _, .nil, _ => rfl
  | _, _, .cons h l, k => by
    simp only [List.all_cons, Bool.and_eq_true] at k ⊢
    exact ⟨flat_V h k.1, all_flat l k.2⟩
theorem in_flat {r : List Addr} {G : Hp} {v : V} {d : Dx} (h : Rv K r G v d) (f : flat d = true) : ∀ {vs : List V} {ds : List Dx}, RvL K r G vs ds → ds.all flat = true → inV v vs = ds.any fun y => eqv y d
  | _, _, .nil, _ => rfl
  | _, _, .cons k l, g => by
    simp only [List.all_cons, Bool.and_eq_true] at g
    show (eqV _ v || inV v _) = (eqv _ d || List.any _ _)
    rw [eq_flat k h g.1 f, in_flat h f l g.2]
theorem atI_py {α : Type} (xs : List α) (i : Int) : atI xs i = pyIx xs i := by
  unfold atI ixN pyIx
  by_cases h : 0 ≤ i
  · rw [if_pos h, if_pos h]
    by_cases h2 : i < xs.length
    · rw [if_pos h2]; rfl
    · rw [if_neg h2]
      exact (List.getElem?_eq_none (by omega)).symm
  · rw [if_neg h, if_neg h]
    by_cases h2 : -(xs.length : Int) ≤ i
    · rw [if_pos h2, if_pos h2]; rfl
    · rw [if_neg h2, if_neg h2]; rfl
theorem RvL.ix {r : List Addr} {G : Hp} {vs : List V} {ds : List Dx} (l : RvL K r G vs ds) {i : Int} {d : Dx} (h : pyIx ds i = some d) : ∃ v, pyIx vs i = some v ∧ Rv K r G v d := by
  unfold pyIx at h ⊢
  by_cases h0 : 0 ≤ i
  · rw [if_pos h0] at h ⊢; exact l.at_ h
  · rw [if_neg h0] at h ⊢
    by_cases h1 : -(ds.length : Int) ≤ i
    · rw [if_pos h1] at h
      rw [l.len, if_pos h1]; exact l.at_ h
    · rw [if_neg h1] at h; cases h
theorem sIx_eq (n d : Nat) (o : Option Int) : HT.sIx n d o = sIx n d o := by cases o <;> rfl
theorem RvL.cut {r : List Addr} {G : Hp} {vs : List V} {ds : List Dx} (l : RvL K r G vs ds) (lo hi : Option Int) : RvL K r G (cutV vs lo hi) (Pm.cut ds lo hi) := by
  unfold cutV Pm.cut
  rw [l.len, sIx_eq, sIx_eq]
  exact (l.drop _).take _
theorem cutS_eq (z : Tx) (lo hi : Option Int) : cutS (tS z) lo hi = tS (Pm.cut z lo hi) := by
  unfold cutS Pm.cut
  rw [tS_l, tS_len, sIx_eq, sIx_eq]
  rfl
theorem okT_cut {z : Tx} (h : okT z) (lo hi : Option Int) : okT (Pm.cut z lo hi) := fun c hc => h c (List.mem_of_mem_drop (List.mem_of_mem_take hc))
end
section
variable {X : Cx}
theorem om_in : OpM X (compareOp .In) (inD false) := by
  refine ⟨_, op_in_seq.or op_in_sign, ?_⟩
  intro w H s x y d e Q E R hx hy h
  unfold inD at h
  split at h
  · cases hy with | str hy =>
    split at h
    · cases hx with | str hx =>
      refine .inr ⟨_, _, rfl, rfl, ?_⟩
      rw [tS_l]
      have h2 := Fin.now h R (.bl _)
      simpa using h2
    · exact h.elim
  · split at h
    · rename_i ys hq
      obtain ⟨a, vs, rfl, h1, l⟩ := hy.asQ R hq
      split at h
      · rename_i hf
        simp only [Bool.and_eq_true] at hf
        refine .inl ⟨a, vs, rfl, h1, flat_V hx hf.1, all_flat l hf.2, ?_⟩
        rw [in_flat hx hf.1 l hf.2]
        have h2 := Fin.now h R (.bl _)
        simpa using h2
      · exact h.elim
    · exact h.elim
theorem om_notIn : OpM X (compareOp .NotIn) (inD true) := by
  refine ⟨_, op_notIn_seq.or op_notIn_sign, ?_⟩
  intro w H s x y d e Q E R hx hy h
  unfold inD at h
  split at h
  · cases hy with | str hy =>
    split at h
    · cases hx with | str hx =>
      refine .inr ⟨_, _, rfl, rfl, ?_⟩
      rw [tS_l]
      have h2 := Fin.now h R (.bl _)
      simpa using h2
    · exact h.elim
  · split at h
    · rename_i ys hq
      obtain ⟨a, vs, rfl, h1, l⟩ := hy.asQ R hq
      split at h
      · rename_i hf
        simp only [Bool.and_eq_true] at hf
        refine .inl ⟨a, vs, rfl, h1, flat_V hx hf.1, all_flat l hf.2, ?_⟩
        rw [in_flat hx hf.1 l hf.2]
        have h2 := Fin.now h R (.bl _)
        simpa using h2
      · exact h.elim
    · exact h.elim
/-- items -/
def IxM (X : Cx) (f : O2) : Prop := ∃ r, IxR X r ∧ SimO2 X.K r f
theorem xm_ix : IxM X ixD := by
  refine ⟨_, ix_seq, ?_⟩
  intro w H s x y d e Q E R hx hy h
  unfold ixD at h
  split at h
  · cases hy
    split at h
    · cases hx with | str hx =>
      split at h
      · rename_i z c hc
        split at h
        · rename_i hl
          refine .inr (.inr ⟨_, _, c, rfl, rfl, by rw [tS_len]; exact most_le hl, by rw [tS_l, atI_py]; exact hc, ?_⟩)
          refine Fin.now h R (.str ?_)
          intro c' hc'
          rw [List.mem_singleton] at hc'
          subst hc'
          unfold pyIx at hc
          split at hc
          · exact hx _ (List.mem_of_getElem? hc)
          · split at hc
            · exact hx _ (List.mem_of_getElem? hc)
            · cases hc
        · exact h.elim
      · exact h.elim
    · split at h
      · rename_i xs hq
        split at h
        · rename_i u hu
          obtain ⟨a, vs, rfl, h1, l⟩ := hx.asQ R hq
          obtain ⟨v, hv, rv⟩ := l.ix hu
          rcases h1 with h1 | h1
          · exact .inl ⟨a, vs, _, v, rfl, rfl, h1, by rw [atI_py]; exact hv, Fin.now h R rv⟩
          · exact .inr (.inl ⟨a, vs, _, v, rfl, rfl, h1, by rw [atI_py]; exact hv, Fin.now h R rv⟩)
        · exact h.elim
      · exact h.elim
  · exact h.elim
/-- slices -/
def SlM (X : Cx) (f : Dx → Option Int → Option Int → Sto → R Dx) : Prop := ∃ r, SlR X r ∧ ∀ w H s x d lo hi Q E, Rel X.K w H s → Rv X.K w.r (w.G H) x d → Fin X.K w H (Rv X.K) Q E (f d lo hi s) → r x lo hi H Q
theorem zm_sl : SlM X slD := by
  refine ⟨_, sl_list.or (sl_tup.or sl_str), ?_⟩
  intro w H s x d lo hi Q E R hx h
  unfold slD at h
  split at h
  · cases hx with | str hx =>
    split at h
    · rename_i hl
      exact .inr (.inr ⟨_, rfl, by rw [tS_len]; exact most_le hl, by rw [cutS_eq]; exact Fin.now h R (.str (okT_cut hx _ _))⟩)
    · exact h.elim
  · cases hx with | tup hx l =>
    split at h
    · exact h.elim
    · rename_i hn
      exact .inr (.inl ⟨_, _, rfl, seqT_same hid_same hx, by rw [l.len, sIx_eq, sIx_eq]; exact hn, fun q n => Fin.treeT h R (l.cut _ _) n⟩)
  · split at h
    · rename_i xs hq
      obtain ⟨a, vs, rfl, h1, l⟩ := hx.asL R hq
      exact .inl ⟨a, vs, rfl, h1, fun q n => Fin.tree h R (l.cut _ _) n⟩
    · exact h.elim
theorem zm_slC : SlM X slC := by
  refine ⟨_, sl_list, ?_⟩
  intro w H s x d lo hi Q E R hx h
  unfold slC at h
  split at h
  · rename_i xs hq
    obtain ⟨a, vs, rfl, h1, l⟩ := hx.asL R hq
    exact ⟨a, vs, rfl, h1, fun q n => Fin.newL (c := true) h R (l.cut _ _) n⟩
  · exact h.elim
/-! ## built-ins -/
theorem cm_len : CallM X (.builtin "len") lenD := by
  refine ⟨_, call_len_seq.or call_len_str, ?_⟩
  intro w H s xs ds Q E R hx h
  unfold lenD at h
  split at h
  · cases hx with | cons hx l =>
    cases l
    cases hx with | str hx =>
    split at h
    · rename_i hl
      exact .inr ⟨_, rfl, by rw [tS_len]; exact most_le hl, by rw [tS_len]; exact Fin.now h R (.int _)⟩
    · exact h.elim
  · cases hx with | cons hx l =>
    cases l
    split at h
    · rename_i hq
      obtain ⟨a, vs, rfl, h1, l⟩ := hx.asQ R hq
      exact .inl ⟨a, vs, rfl, h1, by rw [l.len]; exact Fin.now h R (.int _)⟩
    · exact h.elim
  · exact h.elim
theorem cm_min2 (hc : X.calm = true) : CallM X (.builtin "min") min2D := by
  refine ⟨_, call_min2 hc, ?_⟩
  intro w H s xs ds Q E R hx h
  unfold min2D at h
  split at h
  · cases hx with | cons hx l => cases l with | cons hy l =>
    cases l; cases hx; cases hy
    exact ⟨_, _, rfl, Fin.now h R (.int _)⟩
  · exact h.elim
theorem cm_max2 (hc : X.calm = true) : CallM X (.builtin "max") max2D := by
  refine ⟨_, call_max2 hc, ?_⟩
  intro w H s xs ds Q E R hx h
  unfold max2D at h
  split at h
  · cases hx with | cons hx l => cases l with | cons hy l =>
    cases l; cases hx; cases hy
    exact ⟨_, _, rfl, Fin.now h R (.int _)⟩
  · exact h.elim
theorem cm_divmod : CallM X (.builtin "divmod") divmodD := by
  refine ⟨_, call_divmod, ?_⟩
  intro w H s xs ds Q E R hx h
  unfold divmodD at h
  split at h
  · cases hx with | cons hx l => cases l with | cons hy l =>
    cases l; cases hx; cases hy
    split at h
    · rename_i hc
      exact ⟨_, _, rfl, ⟨hc.1, hc.2⟩, fun q n => Fin.treeT h R (.cons (.int _) (.cons (.int _) .nil)) n⟩
    · exact h.elim
  · exact h.elim
theorem cm_int : CallM X (.type "int") toIntD := by
  refine ⟨_, call_int1, ?_⟩
  intro w H s xs ds Q E R hx h
  unfold toIntD at h
  split at h
  · cases hx with | cons hx l =>
    cases l; cases hx
    exact .inl ⟨_, rfl, Fin.now h R (.int _)⟩
  · cases hx with | cons hx l =>
    cases l; cases hx
    exact .inr ⟨_, rfl, Fin.now h R (.int _)⟩
  · exact h.elim
theorem log2_small {i : Int} (h : -(10 ^ 100) ≤ i ∧ i ≤ 10 ^ 100) : i.natAbs.log2 < 1920 := by
  refine PySem.Flt.log2_lt_of (by decide) ?_
  have h1 : i.natAbs ≤ 10 ^ 100 := by omega
  exact Nat.lt_of_le_of_lt h1 (by decide)
theorem cm_str : CallM X (.type "str") strD := by
  refine ⟨_, call_str_int, ?_⟩
  intro w H s xs ds Q E R hx h
  unfold strD at h
  split at h
  · cases hx with | cons hx l =>
    cases l; cases hx
    split at h
    · rename_i hc
      refine ⟨_, rfl, log2_small hc, ?_⟩
      have h2 := Fin.now h R (.str (okT_tx _))
      unfold txI at h2
      rw [← tS_tx] at h2
      exact h2
    · exact h.elim
  · exact h.elim
end
section
variable {K : PySem.W.Frag} {r : List Addr} {G : Hp}
theorem RvL.bools : ∀ {vs : List V} {ds : List Dx} {l : List Bool}, RvL K r G vs ds → Pm.dBools ds = some l → vs = l.map V.bl
  | _, _, _, .nil, h => by cases h; rfl
  | _, _, _, .cons (d := .bl b) hx l, h => by
    cases hx
    simp only [Pm.dBools, Option.map_eq_some_iff] at h
    obtain ⟨l2, h1, rfl⟩ := h
    rw [List.map_cons, ← l.bools h1]
  | _, _, _, .cons (d := .non) _ _, h => by cases h
  | _, _, _, .cons (d := .int _) _ _, h => by cases h
  | _, _, _, .cons (d := .str _) _ _, h => by cases h
  | _, _, _, .cons (d := .tup _) _ _, h => by cases h
  | _, _, _, .cons (d := .lst _) _ _, h => by cases h
  | _, _, _, .cons (d := .fro _) _ _, h => by cases h
  | _, _, _, .cons (d := .dct) _ _, h => by cases h
  | _, _, _, .cons (d := .obj _ _) _ _, h => by cases h
  | _, _, _, .cons (d := .cell _) _ _, h => by cases h
  | _, _, _, .cons (d := .cls _) _ _, h => by cases h
  | _, _, _, .cons (d := .ty _) _ _, h => by cases h
theorem RvL.intsE : ∀ {vs : List V} {ds : List Dx} {l : List Int}, RvL K r G vs ds → Pm.dInts ds = some l → vs = l.map V.int
  | _, _, _, .nil, h => by cases h; rfl
  | _, _, _, .cons (d := .int b) hx l, h => by
    cases hx
    simp only [Pm.dInts, Option.map_eq_some_iff] at h
    obtain ⟨l2, h1, rfl⟩ := h
    rw [List.map_cons, ← l.intsE h1]
  | _, _, _, .cons (d := .non) _ _, h => by cases h
  | _, _, _, .cons (d := .bl _) _ _, h => by cases h
  | _, _, _, .cons (d := .str _) _ _, h => by cases h
  | _, _, _, .cons (d := .tup _) _ _, h => by cases h
  | _, _, _, .cons (d := .lst _) _ _, h => by cases h
  | _, _, _, .cons (d := .fro _) _ _, h => by cases h
  | _, _, _, .cons (d := .dct) _ _, h => by cases h
  | _, _, _, .cons (d := .obj _ _) _ _, h => by cases h
  | _, _, _, .cons (d := .cell _) _ _, h => by cases h
  | _, _, _, .cons (d := .cls _) _ _, h => by cases h
  | _, _, _, .cons (d := .ty _) _ _, h => by cases h
theorem RvL.strsE : ∀ {vs : List V} {ds : List Dx} {l : List Tx}, RvL K r G vs ds → Pm.dStrs ds = some l → vs = (l.map tS).map V.str ∧ ∀ z ∈ l, okT z
  | _, _, _, .nil, h => by cases h; exact ⟨rfl, fun z hz => by cases hz⟩
  | _, _, _, .cons (d := .str b) hx l, h => by
    cases hx with | str hx =>
    simp only [Pm.dStrs, Option.map_eq_some_iff] at h
    obtain ⟨l2, h1, rfl⟩ := h
    obtain ⟨e, k⟩ := l.strsE h1
    exact ⟨by rw [List.map_cons, List.map_cons, ← e], fun z hz => (List.mem_cons.mp hz).elim (fun q => q ▸ hx) (k z)⟩
  | _, _, _, .cons (d := .non) _ _, h => by cases h
  | _, _, _, .cons (d := .bl _) _ _, h => by cases h
  | _, _, _, .cons (d := .int _) _ _, h => by cases h
  | _, _, _, .cons (d := .tup _) _ _, h => by cases h
  | _, _, _, .cons (d := .lst _) _ _, h => by cases h
  | _, _, _, .cons (d := .fro _) _ _, h => by cases h
  | _, _, _, .cons (d := .dct) _ _, h => by cases h
  | _, _, _, .cons (d := .obj _ _) _ _, h => by cases h
  | _, _, _, .cons (d := .cell _) _ _, h => by cases h
  | _, _, _, .cons (d := .cls _) _ _, h => by cases h
  | _, _, _, .cons (d := .ty _) _ _, h => by cases h
end
section
variable {X : Cx}
theorem cm_all (hc : X.calm = true) : CallM X (.builtin "all") allD := by
  refine ⟨_, cr_all hc, ?_⟩
  intro w H s xs ds Q E R hx h
  unfold allD at h
  split at h
  · cases hx with | cons hx l =>
    cases l
    split at h
    · rename_i hq
      obtain ⟨ys, h1, h2⟩ := Option.bind_eq_some_iff.mp hq
      obtain ⟨a, vs, rfl, h3, l⟩ := hx.asL R h1
      have e := l.bools h2
      subst e
      exact ⟨a, _, rfl, h3, Fin.now h R (.bl _)⟩
    · exact h.elim
  · exact h.elim
theorem cm_any (hc : X.calm = true) : CallM X (.builtin "any") anyD := by
  refine ⟨_, cr_any hc, ?_⟩
  intro w H s xs ds Q E R hx h
  unfold anyD at h
  split at h
  · cases hx with | cons hx l =>
    cases l
    split at h
    · rename_i hq
      obtain ⟨ys, h1, h2⟩ := Option.bind_eq_some_iff.mp hq
      obtain ⟨a, vs, rfl, h3, l⟩ := hx.asL R h1
      have e := l.bools h2
      subst e
      exact ⟨a, _, rfl, h3, Fin.now h R (.bl _)⟩
    · exact h.elim
  · exact h.elim
theorem cm_sum (hc : X.calm = true) : CallM X (.builtin "sum") sumD := by
  refine ⟨_, cr_sum hc, ?_⟩
  intro w H s xs ds Q E R hx h
  unfold sumD at h
  split at h
  · cases hx with | cons hx l =>
    cases l
    split at h
    · rename_i hq
      obtain ⟨ys, h1, h2⟩ := Option.bind_eq_some_iff.mp hq
      obtain ⟨a, vs, rfl, h3, l⟩ := hx.asL R h1
      have e := l.intsE h2
      subst e
      exact ⟨a, _, rfl, h3, Fin.now h R (.int _)⟩
    · exact h.elim
  · exact h.elim
theorem leastOf_le {i : Int} {l : List Int} : leastOf i l ≤ i ∧ (∀ j ∈ l, leastOf i l ≤ j) ∧ (leastOf i l = i ∨ leastOf i l ∈ l) := by
  induction l generalizing i with
  | nil => exact ⟨Int.le_refl _, fun _ h => (nomatch h), .inl rfl⟩
  | cons j l ih =>
    obtain ⟨h1, h2, h3⟩ := @ih (if j < i then j else i)
    unfold leastOf
    by_cases hj : j < i
    · rw [if_pos hj] at h1 h2 h3 ⊢
      exact ⟨by omega, fun k hk => (List.mem_cons.mp hk).elim (fun e => e ▸ h1) (h2 k), h3.elim (fun e => .inr (by rw [e]; exact List.mem_cons_self)) fun e => .inr (List.mem_cons_of_mem _ e)⟩
    · rw [if_neg hj] at h1 h2 h3 ⊢
      exact ⟨h1, fun k hk => (List.mem_cons.mp hk).elim (fun e => e ▸ (by omega)) (h2 k), h3.elim .inl fun e => .inr (List.mem_cons_of_mem _ e)⟩
theorem cm_min (hc : X.calm = true) : CallM X (.builtin "min") minD := by
  refine ⟨_, cr_min hc, ?_⟩
  intro w H s xs ds Q E R hx h
  unfold minD at h
  split at h
  · cases hx with | cons hx l =>
    cases l
    split at h
    · rename_i i l hq
      obtain ⟨ys, h1, h2⟩ := Option.bind_eq_some_iff.mp hq
      obtain ⟨a, vs, rfl, h3, l'⟩ := hx.asL R h1
      have e := l'.intsE h2
      subst e
      refine ⟨a, _, rfl, h3, by simp, fun m hm hle => ?_⟩
      obtain ⟨g1, g2, g3⟩ := @leastOf_le i l
      have e : m = leastOf i l := by
        refine Int.le_antisymm (hle _ ?_) ?_
        · rcases g3 with g | g
          · rw [g]; exact List.mem_cons_self
          · exact List.mem_cons_of_mem _ g
        · rcases List.mem_cons.mp hm with rfl | hm
          · exact g1
          · exact g2 _ hm
      rw [e]
      exact Fin.now h R (.int _)
    · exact h.elim
  · exact h.elim
theorem cm_list (c : Bool) : CallM X (.type "list") (listD c) := by
  refine ⟨_, call_list_of, ?_⟩
  intro w H s xs ds Q E R hx h
  unfold listD at h
  split at h
  · cases hx with | cons hx l =>
    cases l
    split at h
    · rename_i hq
      obtain ⟨a, vs, rfl, h1, l⟩ := hx.asQ R hq
      exact ⟨a, vs, rfl, h1, fun q n => Fin.newL h R l n⟩
    · exact h.elim
  · exact h.elim
theorem cm_tup : CallM X (.type "tuple") tupD := by
  refine ⟨_, call_tuple_of, ?_⟩
  intro w H s xs ds Q E R hx h
  unfold tupD at h
  split at h
  · cases hx with | cons hx l =>
    cases l
    cases hx with | tup hx l =>
    exact ⟨_, _, rfl, .inr ⟨seqT_same hid_same hx, Fin.now h R (.tup hx l)⟩⟩
  · cases hx with | cons hx l =>
    cases l
    split at h
    · rename_i hq
      obtain ⟨a, vs, rfl, h1, l⟩ := hx.asL R hq
      exact ⟨a, vs, rfl, .inl ⟨h1, fun q n => Fin.treeT h R l n⟩⟩
    · exact h.elim
  · exact h.elim
theorem cnt_dcnt (zs : List Tx) : ∀ i, dcnt (zs.map tS) i = cntU zs i
  | 0 => rfl
  | i + 1 => by
    unfold dcnt cntU
    rw [List.getElem?_map]
    cases zs[i]? with
    | none => exact cnt_dcnt zs i
    | some z =>
      simp only [Option.map_some]
      have e : (tS z ∈ (zs.map tS).take i) = (z ∈ zs.take i) := by
        rw [← List.map_take]
        simp only [eq_iff_iff, List.mem_map]
        exact ⟨fun ⟨y, h1, h2⟩ => tS_inj h2 ▸ h1, fun h => ⟨z, h, rfl⟩⟩
      simp only [e, cnt_dcnt zs i]
end
end Ps

/-! # soundness: the rules of expressions -/
namespace Ps
open PySem PySem.Spec PyProof.Rows L2 Vs He Pm
abbrev Wn : WX := fun _ _ _ _ => False
abbrev cE (K : PySem.W.Frag) (p : Px) (W : WX) (m : ME) : TE := fun σ H Q => ∃ w e s, Rel K w H s ∧ RelE K p w H e σ ∧ Fin K w H (Rv K) Q (WE W σ) (m e s)
abbrev cA (K : PySem.W.Frag) (p : Px) (W : WX) (m : MA) : TA := fun σ H Q => ∃ w e s, Rel K w H s ∧ RelE K p w H e σ ∧ Fin K w H (RvL K) Q (WE W σ) (m e s)
abbrev cT (K : PySem.W.Frag) (p : Px) (W : WX) (m : MT) : TT := fun σ H Q => ∃ w e s, Rel K w H s ∧ RelE K p w H e σ ∧ Fin K w H relB Q (WE W σ) (m e s)
abbrev cO (K : PySem.W.Frag) (p : Px) (W : WX) (m : MO) : TO := fun σ H Q => ∃ w e s, Rel K w H s ∧ RelE K p w H e σ ∧ Fin K w H relO Q (WE W σ) (m e s)
section
variable {X : Cx}
theorem imE {e : Expr} {t u : TE} (i : ∀ σ H Q, u σ H Q → t σ H Q) (h : PE X e t) : PE X e u := ⟨fun pins s σ H Q I q => h.run pins s σ H Q I (i σ H Q q)⟩
theorem imT {e : Expr} {t u : TT} (i : ∀ σ H Q, u σ H Q → t σ H Q) (h : PT X e t) : PT X e u := ⟨fun pins s σ H Q I q => h.run pins s σ H Q I (i σ H Q q)⟩
theorem imW {e : Expr} {t u : TT} (i : ∀ σ H Q, u σ H Q → t σ H Q) (h : PW X e t) : PW X e u := ⟨fun whole pins s σ H Q I q => h.run whole pins s σ H Q I (i σ H Q q)⟩
theorem imTs {e : List Expr} {t u : TT} (i : ∀ σ H Q, u σ H Q → t σ H Q) (h : PTs X e t) : PTs X e u := ⟨fun pins s σ H Q I q => h.run pins s σ H Q I (i σ H Q q)⟩
theorem imA {es : List Expr} {t u : TA} (i : ∀ σ H Q, u σ H Q → t σ H Q) (h : PA X es t) : PA X es u := ⟨fun pos pins s σ H Q I q => h.run pos pins s σ H Q I (i σ H Q q)⟩
theorem imO {e : Option Expr} {t u : TO} (i : ∀ σ H Q, u σ H Q → t σ H Q) (h : PO X e t) : PO X e u := ⟨fun pins s σ H Q I q => h.run pins s σ H Q I (i σ H Q q)⟩
end
section
variable {K : PySem.W.Frag} {p : Px} {W : WX} {σ : L2.St} {H : Hp}
/-! ## leaves -/
theorem i_var {i : Nat} : ∀ σ H Q, cE K p W (eVar i) σ H Q → tVar i σ H Q := fun σ H Q ⟨w, e, s, R, E, h⟩ => by
  unfold eVar at h
  split at h
  · rename_i d hd
    obtain ⟨v, h1, h2⟩ := E.sl _ _ hd
    exact ⟨v, h1, Fin.now h R h2⟩
  · exact h.elim
theorem i_c {v : V} {d : Dx} (k : ∀ r G, Rv K r G v d) : ∀ σ H Q, cE K p W (eC d) σ H Q → tC v σ H Q := fun σ H Q ⟨w, e, s, R, E, h⟩ => Fin.now h R (k _ _)
theorem i_int {i : Int} : ∀ σ H Q, cE K p W (eC (.int i)) σ H Q → tC (.int i) σ H Q := i_c fun _ _ => .int i
theorem i_bl {b : Bool} : ∀ σ H Q, cE K p W (eC (.bl b)) σ H Q → tC (.bl b) σ H Q := i_c fun _ _ => .bl b
theorem i_non : ∀ σ H Q, cE K p W (eC .non) σ H Q → tC .non σ H Q := i_c fun _ _ => .non
theorem i_str {z : String} : ∀ σ H Q, cE K p W (eC (.str (tx z))) σ H Q → tC (.str (Str.ofString z)) σ H Q := i_c fun _ _ => by rw [tS_tx]; exact .str (okT_tx z)
theorem i_ty {z : String} : ∀ σ H Q, cE K p W (eC (.ty z)) σ H Q → tC (.ty z) σ H Q := i_c fun _ _ => .ty
theorem i_cls {C : String} : ∀ σ H Q, cE K p W (eC (.cls C)) σ H Q → tC (.ref (ga K C)) σ H Q := i_c fun _ _ => .cls
theorem i_dnew : ∀ σ H Q, cE K p W (eC .dct) σ H Q → tDNewK σ H Q := fun σ H Q ⟨w, e, s, R, E, h⟩ => by
  intro a n
  obtain ⟨r1, e1, g1⟩ := R.new n (.dK [])
  exact h w _ _ e1 r1 (.dct g1)
/-! ## operators -/
theorem i_op {r : R2} {f : O2} {ma mb : ME} (sr : SimO2 K r f) : ∀ σ H Q, cE K p W (eOp f ma mb) σ H Q → tOp r (cE K p W ma) (cE K p W mb) σ H Q := fun σ H Q ⟨w, e, s, R, E, h⟩ =>
  ⟨w, e, s, R, E, Fin.bind h fun d s1 w1 H1 v x1 R1 r1 h1 => ⟨w1, e, s1, R1, E.ext x1, Fin.bind h1 fun d2 s2 w2 H2 v2 x2 R2 r2 h2 => sr _ _ _ _ _ _ _ _ _ R2 (r1.ext x2) r2 h2⟩⟩
theorem i_un {r : V → Hp → VK → Prop} {f : O1} {ma : ME} (sr : SimO1 K r f) : ∀ σ H Q, cE K p W (eUn f ma) σ H Q → tUn r (cE K p W ma) σ H Q := fun σ H Q ⟨w, e, s, R, E, h⟩ =>
  ⟨w, e, s, R, E, Fin.bind h fun d s1 w1 H1 v x1 R1 r1 h1 => sr _ _ _ _ _ _ _ R1 r1 h1⟩
theorem sim_neg : SimO1 K (rU fun i => .int (-i)) negD := by
  intro w H s x d Q E R hx h
  unfold negD at h
  split at h
  · cases hx; exact ⟨_, rfl, Fin.now h R (.int _)⟩
  · exact h.elim
theorem i_and {ma mb : ME} : ∀ σ H Q, cE K p W (eAnd ma mb) σ H Q → tAndV (cE K p W ma) (cE K p W mb) σ H Q := fun σ H Q ⟨w, e, s, R, E, h⟩ =>
  ⟨w, e, s, R, E, Fin.bind h fun d s1 w1 H1 v x1 R1 r1 h1 => by
    split at h1
    · cases r1; exact ⟨true, rfl, w1, e, s1, R1, E.ext x1, h1⟩
    · cases r1; exact ⟨false, rfl, Fin.now h1 R1 (.bl false)⟩
    · exact h1.elim⟩
theorem i_or {ma mb : ME} : ∀ σ H Q, cE K p W (eOr ma mb) σ H Q → tOrV (cE K p W ma) (cE K p W mb) σ H Q := fun σ H Q ⟨w, e, s, R, E, h⟩ =>
  ⟨w, e, s, R, E, Fin.bind h fun d s1 w1 H1 v x1 R1 r1 h1 => by
    split at h1
    · cases r1; exact ⟨true, rfl, Fin.now h1 R1 (.bl true)⟩
    · cases r1; exact ⟨false, rfl, w1, e, s1, R1, E.ext x1, h1⟩
    · exact h1.elim⟩
theorem i_not {ma : ME} : ∀ σ H Q, cE K p W (eNot ma) σ H Q → tNotV (cE K p W ma) σ H Q := fun σ H Q ⟨w, e, s, R, E, h⟩ =>
  ⟨w, e, s, R, E, Fin.bind h fun d s1 w1 H1 v x1 R1 r1 h1 => by
    split at h1
    · cases r1; exact ⟨_, rfl, Fin.now h1 R1 (.bl _)⟩
    · exact h1.elim⟩
theorem i_if {mt : MT} {ma mb : ME} : ∀ σ H Q, cE K p W (eIf mt ma mb) σ H Q → tIf (cT K p W mt) (cE K p W ma) (cE K p W mb) σ H Q := fun σ H Q ⟨w, e, s, R, E, h⟩ =>
  ⟨w, e, s, R, E, Fin.bind h fun d s1 w1 H1 v x1 R1 r1 h1 => by
    cases r1
    by_cases hc : d = true
    · rw [if_pos hc] at h1 ⊢; exact ⟨w1, e, s1, R1, E.ext x1, h1⟩
    · rw [if_neg hc] at h1 ⊢; exact ⟨w1, e, s1, R1, E.ext x1, h1⟩⟩
theorem i_chain {r r' : R2} {f g : O2} {ma mb mc : ME} (sr : SimO2 K r f) (sg : SimO2 K r' g) : ∀ σ H Q, cE K p W (eChain f g ma mb mc) σ H Q → tChain r r' (cE K p W ma) (cE K p W mb) (cE K p W mc) σ H Q := fun σ H Q ⟨w, e, s, R, E, h⟩ =>
  ⟨w, e, s, R, E, Fin.bind h fun d s1 w1 H1 v x1 R1 r1 h1 => ⟨w1, e, s1, R1, E.ext x1, Fin.bind h1 fun d2 s2 w2 H2 v2 x2 R2 r2 h2 =>
    sr w2 H2 s2 _ _ _ _ _ (WE W σ) R2 (r1.ext x2) r2 (Fin.bind h2 fun d3 s3 w3 H3 v3 x3 R3 r3 h3 => by
      split at h3
      · cases r3
        refine ⟨true, rfl, ?_⟩
        rw [if_pos rfl]
        exact ⟨w3, e, s3, R3, (E.ext x1).ext (x2.trans x3), Fin.bind h3 fun d4 s4 w4 H4 v4 x4 R4 r4 h4 => sg _ _ _ _ _ _ _ _ _ R4 ((r2.ext x3).ext x4) r4 h4⟩
      · cases r3
        refine ⟨false, rfl, ?_⟩
        exact Fin.now h3 R3 (.bl false)
      · exact h3.elim)⟩⟩
/-! ## tests -/
theorem i_uV {ma : ME} : ∀ σ H Q, cT K p W (uV ma) σ H Q → tTest (cE K p W ma) σ H Q := fun σ H Q ⟨w, e, s, R, E, h⟩ =>
  ⟨w, e, s, R, E, Fin.bind h fun d s1 w1 H1 v x1 R1 r1 h1 => by
    split at h1
    · cases r1; exact ⟨_, rfl, Fin.now h1 R1 rfl⟩
    · exact h1.elim⟩
theorem i_uB {ma : ME} : ∀ σ H Q, cT K p W (uV ma) σ H Q → tB (cE K p W ma) σ H Q := i_uV
theorem i_uAnd {ma mb : MT} : ∀ σ H Q, cT K p W (uAnd ma mb) σ H Q → tAnd (cT K p W ma) (cT K p W mb) σ H Q := fun σ H Q ⟨w, e, s, R, E, h⟩ =>
  ⟨w, e, s, R, E, Fin.bind h fun d s1 w1 H1 v x1 R1 r1 h1 => by
    cases r1
    by_cases hc : d = true
    · rw [if_pos hc] at h1 ⊢; exact ⟨w1, e, s1, R1, E.ext x1, h1⟩
    · rw [if_neg hc] at h1 ⊢; exact Fin.now h1 R1 rfl⟩
theorem i_uOr {ma mb : MT} : ∀ σ H Q, cT K p W (uOr ma mb) σ H Q → tOr (cT K p W ma) (cT K p W mb) σ H Q := fun σ H Q ⟨w, e, s, R, E, h⟩ =>
  ⟨w, e, s, R, E, Fin.bind h fun d s1 w1 H1 v x1 R1 r1 h1 => by
    cases r1
    by_cases hc : d = true
    · rw [if_pos hc] at h1 ⊢; exact Fin.now h1 R1 rfl
    · rw [if_neg hc] at h1 ⊢; exact ⟨w1, e, s1, R1, E.ext x1, h1⟩⟩
theorem i_uNot {ma : MT} : ∀ σ H Q, cT K p W (uNot ma) σ H Q → tNot (cT K p W ma) σ H Q := fun σ H Q ⟨w, e, s, R, E, h⟩ =>
  ⟨w, e, s, R, E, Fin.bind h fun d s1 w1 H1 v x1 R1 r1 h1 => by cases r1; exact Fin.now h1 R1 rfl⟩
theorem i_uYes : ∀ σ H Q, cT K p W uYes σ H Q → tYes σ H Q := fun σ H Q ⟨w, e, s, R, E, h⟩ => Fin.now h R rfl
theorem sq_empty {r : List Addr} {G : Hp} {vs : List V} {ds : List Dx} (l : RvL K r G vs ds) : (!ds.isEmpty) = !vs.isEmpty := by cases l <;> rfl
theorem sim_tru {w : Wd} {s : Sto} (R : Rel K w H s) {v : V} {d : Dx} (r : Rv K w.r (w.G H) v d) {b : Bool} (h : truD s d = some b) : TruV K v H b := by
  unfold truD at h
  split at h
  · cases r; cases h; rfl
  · cases r; cases h; rfl
  · cases r; cases h; rfl
  · cases r with | str r =>
    split at h
    · rename_i hl
      cases h
      refine ⟨by rw [tS_len]; exact most_le hl, ?_⟩
      rw [tS_len]
      rename_i z
      cases z with
      | nil => rfl
      | cons c z =>
        show true = (((z.length + 1 : Nat) : Int) != 0)
        rw [eq_comm, bne_iff_ne]
        omega
    · cases h
  · obtain ⟨xs, h1, h2⟩ := Option.map_eq_some_iff.mp h
    obtain ⟨a, vs, rfl, h3, l⟩ := r.asQ R h1
    subst h2
    rcases h3 with h3 | h3
    · exact .inl ⟨vs, h3, sq_empty l⟩
    · exact .inr (.inl ⟨vs, h3, sq_empty l⟩)
theorem i_tru {ma : ME} : ∀ σ H Q, cT K p W (uTru ma) σ H Q → tTru K (cE K p W ma) σ H Q := fun σ H Q ⟨w, e, s, R, E, h⟩ =>
  ⟨w, e, s, R, E, Fin.bind h fun d s1 w1 H1 v x1 R1 r1 h1 => by
    split at h1
    · rename_i hb
      exact ⟨_, sim_tru R1 r1 hb, Fin.now h1 R1 rfl⟩
    · exact h1.elim⟩
/-! ## arguments, lists -/
theorem i_nil : ∀ σ H Q, cA K p W aNil σ H Q → tNil σ H Q := fun σ H Q ⟨w, e, s, R, E, h⟩ => Fin.now h R .nil
theorem i_cons {ma : ME} {ms : MA} : ∀ σ H Q, cA K p W (aCons ma ms) σ H Q → tCons (cE K p W ma) (cA K p W ms) σ H Q := fun σ H Q ⟨w, e, s, R, E, h⟩ =>
  ⟨w, e, s, R, E, Fin.bind h fun d s1 w1 H1 v x1 R1 r1 h1 => ⟨w1, e, s1, R1, E.ext x1, Fin.bind h1 fun d2 s2 w2 H2 v2 x2 R2 r2 h2 => Fin.now h2 R2 (.cons (r1.ext x2) r2)⟩⟩
theorem i_lst {c : Bool} {ms : MA} : ∀ σ H Q, cE K p W (eLst c ms) σ H Q → tLst (cA K p W ms) σ H Q := fun σ H Q ⟨w, e, s, R, E, h⟩ =>
  ⟨w, e, s, R, E, Fin.bind h fun d s1 w1 H1 v x1 R1 r1 h1 => by
    split at h1
    · rename_i hl
      exact ⟨by rw [r1.len]; exact most_le hl, fun a n => Fin.newL h1 R1 r1 n⟩
    · exact h1.elim⟩
theorem i_tup {ms : MA} : ∀ σ H Q, cE K p W (eTup ms) σ H Q → tTup (cA K p W ms) σ H Q := fun σ H Q ⟨w, e, s, R, E, h⟩ =>
  ⟨w, e, s, R, E, Fin.bind h fun d s1 w1 H1 v x1 R1 r1 h1 => by
    split at h1
    · rename_i hl
      exact ⟨by rw [r1.len]; exact most_le hl, fun a n => Fin.treeT h1 R1 r1 n⟩
    · exact h1.elim⟩
/-! ## slices -/
theorem i_oNone : ∀ σ H Q, cO K p W oNone σ H Q → tNoPart σ H Q := fun σ H Q ⟨w, e, s, R, E, h⟩ => Fin.now h R rfl
theorem i_oSome {ma : ME} : ∀ σ H Q, cO K p W (oSome ma) σ H Q → tPart (cE K p W ma) σ H Q := fun σ H Q ⟨w, e, s, R, E, h⟩ =>
  ⟨w, e, s, R, E, Fin.bind h fun d s1 w1 H1 v x1 R1 r1 h1 => by
    split at h1
    · cases r1; exact ⟨_, rfl, Fin.now h1 R1 rfl⟩
    · exact h1.elim⟩
/-! ## calls -/
theorem i_cb {r : List V → Hp → VK → Prop} {f : MF} {ms : MA} (sr : SimF K r f) : ∀ σ H Q, cE K p W (eCall f ms) σ H Q → tCB r (cA K p W ms) σ H Q := fun σ H Q ⟨w, e, s, R, E, h⟩ =>
  ⟨w, e, s, R, E, Fin.bind h fun d s1 w1 H1 v x1 R1 r1 h1 => sr _ _ _ _ _ _ _ R1 r1 h1⟩
/-- what a def asks: its arguments stand for data, what it computes is wanted -/
def spM (K : PySem.W.Frag) (f : MF) : Sp := fun vs H Q E => ∃ w ds s, Rel K w H s ∧ RvL K w.r (w.G H) vs ds ∧ Fin K w H (Rv K) Q E (f ds s)
theorem i_call {f : MF} {ms : MA} : ∀ σ H Q, cE K p W (eCall f ms) σ H Q → tCallS (spM K f) (WE W) (cA K p W ms) σ H Q := fun σ H Q ⟨w, e, s, R, E, h⟩ =>
  ⟨w, e, s, R, E, Fin.bind h fun d s1 w1 H1 v x1 R1 r1 h1 => ⟨w1, d, s1, R1, r1, h1⟩⟩
def RvC (K : PySem.W.Frag) (us : List V) (ds : List Dx) : Prop := ∀ r G, RvL K r G us ds
theorem i_callD {f : MF} {ms : MA} {us : List V} {dv : List Dx} (k : RvC K us dv) : ∀ σ H Q, cE K p W (eCallD f dv ms) σ H Q → tCallSD (spM K f) us (WE W) (cA K p W ms) σ H Q := fun σ H Q ⟨w, e, s, R, E, h⟩ =>
  ⟨w, e, s, R, E, Fin.bind h fun d s1 w1 H1 v x1 R1 r1 h1 => ⟨w1, _, s1, R1, r1.app (k _ _), h1⟩⟩
end
section
variable {X : Cx} {p : Px} {W : WX}
theorem qe_op {op : Operator} {f : O2} {a b : Expr} {pos : Pos} {ma mb : ME} (ho : OpM X (binaryOp op) f) (ha : PE X a (cE X.K p W ma)) (hb : PE X b (cE X.K p W mb)) : PE X (.BinOp a op b pos) (cE X.K p W (eOp f ma mb)) := let ⟨_, h, s⟩ := ho; imE (i_op s) (pe_op h ha hb)
theorem qe_cmp {op : CmpOp} {f : O2} {a b : Expr} {pos : Pos} {ma mb : ME} (ho : OpM X (compareOp op) f) (ha : PE X a (cE X.K p W ma)) (hb : PE X b (cE X.K p W mb)) (hm : behindInMarks op b = false) : PE X (.Compare a [op] [b] pos) (cE X.K p W (eOp f ma mb)) := let ⟨_, h, s⟩ := ho; imE (i_op s) (pe_cmpR h ha hb hm)
theorem qt_cmp {op : CmpOp} {f : O2} {a b : Expr} {pos : Pos} {ma mb : ME} (ho : OpM X (compareOp op) f) (ha : PE X a (cE X.K p W ma)) (hb : PE X b (cE X.K p W mb)) (hm : behindInMarks op b = false) : PT X (.Compare a [op] [b] pos) (cT X.K p W (uV (eOp f ma mb))) := let ⟨_, h, s⟩ := ho
  imT (fun σ H Q q => by
    obtain ⟨w, e, s1, R, E, q⟩ := q
    exact i_op s σ H _ ⟨w, e, s1, R, E, Fin.bind q fun d s1 w1 H1 v x1 R1 r1 h1 => by
      split at h1
      · cases r1; exact ⟨_, rfl, Fin.now h1 R1 rfl⟩
      · exact h1.elim⟩) (pt_cmpR h ha hb hm)
theorem qe_chain {op op' : CmpOp} {f g : O2} {a b c : Expr} {pos : Pos} {ma mb mc : ME} (ho : OpM X (compareOp op) f) (ho' : OpM X (compareOp op') g) (ha : PE X a (cE X.K p W ma)) (hb : PE X b (cE X.K p W mb)) (hc : PE X c (cE X.K p W mc))
    (hm : lastMarks [op, op'] [b, c] = false := by with_unfolding_all rfl) : PE X (.Compare a [op, op'] [b, c] pos) (cE X.K p W (eChain f g ma mb mc)) := let ⟨_, h, s⟩ := ho; let ⟨_, h', s'⟩ := ho'; imE (i_chain s s') (pe_chain h h' ha hb hc hm)
theorem qt_chain {op op' : CmpOp} {f g : O2} {a b c : Expr} {pos : Pos} {ma mb mc : ME} (ho : OpM X (compareOp op) f) (ho' : OpM X (compareOp op') g) (ha : PE X a (cE X.K p W ma)) (hb : PE X b (cE X.K p W mb)) (hc : PE X c (cE X.K p W mc))
    (hm : lastMarks [op, op'] [b, c] = false := by with_unfolding_all rfl) : PT X (.Compare a [op, op'] [b, c] pos) (cT X.K p W (uV (eChain f g ma mb mc))) := let ⟨_, h, s⟩ := ho; let ⟨_, h', s'⟩ := ho'
  imT (fun σ H Q q => by
    obtain ⟨w, e, s1, R, E, q⟩ := q
    exact i_chain s s' σ H _ ⟨w, e, s1, R, E, Fin.bind q fun d s1 w1 H1 v x1 R1 r1 h1 => by
      split at h1
      · cases r1; exact ⟨_, rfl, Fin.now h1 R1 rfl⟩
      · exact h1.elim⟩) (pt_chain h h' ha hb hc hm)
theorem qe_ix {a b : Expr} {pos : Pos} {ma mb : ME} (ha : PE X a (cE X.K p W ma)) (hb : PE X b (cE X.K p W mb)) (hs : PlainIx b) : PE X (.Subscript a b pos) (cE X.K p W (eOp ixD ma mb)) := let ⟨_, h, s⟩ := xm_ix (X := X); imE (i_op s) (pe_ix h ha hb hs)
theorem qe_sl {a : Expr} {lo hi : Option Expr} {pos p2 : Pos} {ma : ME} {ml mh : MO} (ha : PE X a (cE X.K p W ma)) (hl : PO X lo (cO X.K p W ml)) (hh : PO X hi (cO X.K p W mh)) : PE X (.Subscript a (.Slice lo hi none p2) pos) (cE X.K p W (eSl ma ml mh)) := let ⟨_, h, sr⟩ := zm_sl (X := X)
  imE (fun σ H Q ⟨w, e, s, R, E, q⟩ => ⟨w, e, s, R, E, Fin.bind q fun d s1 w1 H1 v x1 R1 r1 h1 => ⟨w1, e, s1, R1, E.ext x1, Fin.bind h1 fun d2 s2 w2 H2 v2 x2 R2 r2 h2 => ⟨w2, e, s2, R2, (E.ext x1).ext x2, Fin.bind h2 fun d3 s3 w3 H3 v3 x3 R3 r3 h3 => by
    cases r2; cases r3; exact sr _ _ _ _ _ _ _ _ _ R3 ((r1.ext x2).ext x3) h3⟩⟩⟩) (pe_slice h ha hl hh)
theorem qe_slC {a : Expr} {lo hi : Option Expr} {pos p2 : Pos} {ma : ME} {ml mh : MO} (ha : PE X a (cE X.K p W ma)) (hl : PO X lo (cO X.K p W ml)) (hh : PO X hi (cO X.K p W mh)) : PE X (.Subscript a (.Slice lo hi none p2) pos) (cE X.K p W (eSlC ma ml mh)) := let ⟨_, h, sr⟩ := zm_slC (X := X)
  imE (fun σ H Q ⟨w, e, s, R, E, q⟩ => ⟨w, e, s, R, E, Fin.bind q fun d s1 w1 H1 v x1 R1 r1 h1 => ⟨w1, e, s1, R1, E.ext x1, Fin.bind h1 fun d2 s2 w2 H2 v2 x2 R2 r2 h2 => ⟨w2, e, s2, R2, (E.ext x1).ext x2, Fin.bind h2 fun d3 s3 w3 H3 v3 x3 R3 r3 h3 => by
    cases r2; cases r3; exact sr _ _ _ _ _ _ _ _ _ R3 ((r1.ext x2).ext x3) h3⟩⟩⟩) (pe_slice h ha hl hh)
theorem qe_cb {f : MF} {v : Value} {e : Expr} {ms : MA} (hc : CallM X v f) (h : ∀ r, CallR X v r → PE X e (tCB r (cA X.K p W ms))) : PE X e (cE X.K p W (eCall f ms)) := let ⟨_, k, s⟩ := hc; imE (i_cb s) (h _ k)
end
end Ps

/-! # soundness: own classes, isinstance, fields, objects -/
namespace Ps
open PySem PySem.Spec PyProof.Rows L2 Vs He Pm
def clsB (K : PySem.W.Frag) (C : Addr) : Bool := PySem.W.plainGet K C Str.empty && (PySem.W.hasDictIn K C && (PySem.W.plainOver K C && decide (PySem.W.findIn K (.ref C) "__setattr__" = some (some (.builtin "object.__setattr__")))))
theorem clsB_ok {K : PySem.W.Frag} {C : Addr} (h : clsB K C = true) : Cls K C := by
  obtain ⟨h1, h⟩ := b2 h
  obtain ⟨h2, h⟩ := b2 h
  obtain ⟨h3, h4⟩ := b2 h
  exact ⟨h1, h2, h3, of_decide_eq_true h4⟩
def hcB (K : PySem.W.Frag) : Bool := subT.all fun e => clsB K (ga K e.1) && (insB K (ga K e.1) && ((e.2.2.all fun f => decide (PySem.W.findIn K (.ref (ga K e.1)) f = some none)) &&
  ((bTys.all fun b => decide (PySem.W.kitOne K (.ref (ga K e.1)) (.type b) = some false) && decide (PySem.W.kitOne K (.type b) (.ref (ga K e.1)) = some false)) &&
  (subT.all fun x => decide (PySem.W.kitOne K (.ref (ga K e.1)) (.ref (ga K x.1)) = some (e.2.1.contains x.1))))))
structure HcE (K : PySem.W.Frag) (C : String) (ss fs : List String) : Prop where
  cls : Cls K (ga K C)
  ins : InsT K (ga K C)
  na : ∀ f ∈ fs, NoAttr K (ga K C) f
  nb : ∀ b ∈ bTys, PySem.W.kitOne K (.ref (ga K C)) (.type b) = some false ∧ PySem.W.kitOne K (.type b) (.ref (ga K C)) = some false
  sub : ∀ x ∈ subT, PySem.W.kitOne K (.ref (ga K C)) (.ref (ga K x.1)) = some (ss.contains x.1)
def Hc (K : PySem.W.Frag) : Prop := hcB K = true
theorem lookup_mem {α β : Type} [BEq α] [LawfulBEq α] {l : List (α × β)} {a : α} {b : β} (h : l.lookup a = some b) : (a, b) ∈ l := by
  induction l with
  | nil => cases h
  | cons x l ih =>
    obtain ⟨c, d⟩ := x
    by_cases e : a = c
    · subst e
      rw [List.lookup_cons] at h
      simp only [beq_self_eq_true] at h
      cases h
      exact List.mem_cons_self
    · rw [List.lookup_cons] at h
      have : (a == c) = false := by simpa using e
      rw [this] at h
      exact List.mem_cons_of_mem _ (ih h)
theorem Hc.e {K : PySem.W.Frag} (h : Hc K) {C : String} {z : List String × List String} (m : subT.lookup C = some z) : HcE K C z.1 z.2 := by
  have h := List.all_eq_true.mp h _ (lookup_mem m)
  obtain ⟨h1, h⟩ := b2 h
  obtain ⟨h2, h⟩ := b2 h
  obtain ⟨h3, h⟩ := b2 h
  obtain ⟨h4, h5⟩ := b2 h
  have c := clsB_ok h1
  refine ⟨c, insB_ok c h2, fun f hf => (show PySem.W.findIn K (.ref (ga K C)) f = some none from of_decide_eq_true (List.all_eq_true.mp h3 f hf)), fun b hb => ?_, fun x hx => of_decide_eq_true (List.all_eq_true.mp h5 x hx)⟩
  obtain ⟨a1, a2⟩ := b2 (List.all_eq_true.mp h4 b hb)
  exact ⟨of_decide_eq_true a1, of_decide_eq_true a2⟩
theorem Hc.cls {K : PySem.W.Frag} (h : Hc K) {C : String} (m : inT C = true) : Cls K (ga K C) := let ⟨_, e⟩ := Option.isSome_iff_exists.mp m; (h.e e).cls
theorem Hc.ins {K : PySem.W.Frag} (h : Hc K) {C : String} (m : inT C = true) : InsT K (ga K C) := let ⟨_, e⟩ := Option.isSome_iff_exists.mp m; (h.e e).ins
theorem Hc.na {K : PySem.W.Frag} (h : Hc K) {C f : String} (m : hasF C f = true) : NoAttr K (ga K C) f := by
  unfold hasF at m
  cases e : subT.lookup C with
  | none => rw [e] at m; cases m
  | some z =>
    rw [e] at m
    exact (h.e e).na f (List.contains_iff_mem.mp m)
/-! ## isinstance -/
def tv (K : PySem.W.Frag) (s : Sto) : Dx → Value
  | .int _ => .type "int"
  | .bl _ => .type "bool"
  | .non => .type "NoneType"
  | .str _ => .type "str"
  | .tup _ => .type "tuple"
  | .lst _ => .type "list"
  | .dct => .type "dict"
  | .obj C _ => .ref (ga K C)
  | .cell n => match s[n]? with
    | some (.lst _) => .type "list"
    | some (.obj C _) => .ref (ga K C)
    | none => .none
  | _ => .none
section
variable {K : PySem.W.Frag} {w : Wd} {H : Hp} {s : Sto}
theorem tyT {a : Addr} {vs : List V} (h : SqT K H a vs) : TyX K H (.ref a) (.type "tuple") := by
  rcases h with (h | ⟨o, h⟩) | h
  · exact .base (.tup h)
  · exact .fTuple h
  · obtain ⟨o, its, n, h1, h2, _⟩ := h
    exact .kTuple h1 h2
theorem Rv.tyx (hc : Hc K) (R : Rel K w H s) {v : V} {d : Dx} (h : Rv K w.r (w.G H) v d) (k : tv K s d ≠ .none) : TyX K H v (tv K s d) := by
  cases h with
  | int i => exact .base (.int i)
  | bl b => exact .base (.bl b)
  | non => exact .base .non
  | str z => exact .base (.str _)
  | tup h _ => exact tyT (seqT_same hid_same h)
  | lst h _ => exact .base (.lst (hid_some h).2)
  | dct h => exact .base (.dK (hid_some h).2)
  | obj h m _ _ => exact (hc.ins m).ty (hid_some h).2
  | fro => exact absurd rfl k
  | cls => exact absurd rfl k
  | ty => exact absurd rfl k
  | cell h =>
    rename_i n a
    cases hs : s[n]? with
    | none => simp [tv, hs] at k
    | some c =>
      obtain ⟨o, h1, h2⟩ := R.at_ h hs
      cases h2 with
      | lst l => simp only [tv, hs]; exact .base (.lst h1)
      | obj m f l => simp only [tv, hs]; exact (hc.ins m).ty h1
theorem kitBs : ∀ a ∈ bTys, ∀ b ∈ bTys, PySem.W.kitMeta b = true → kitB a b = some (decide (b = a) || (decide (a = "bool") && decide (b = "int"))) := by decide +kernel
theorem bTys_meta : ∀ b ∈ bTys, PySem.W.kitMeta b = true := by decide +kernel
theorem kit_b {a b : String} (m : a ∈ bTys) (n : b ∈ bTys) : PySem.W.kitOne K (.type a) (.type b) = some (decide (b = a) || (decide (a = "bool") && decide (b = "int"))) := kit_ty (kitBs a m b n (bTys_meta b n))
theorem kit_c (hc : Hc K) {a X : String} (m : a ∈ bTys) (n : inT X = true) : PySem.W.kitOne K (.type a) (.ref (ga K X)) = some false := by
  obtain ⟨z, hz⟩ := Option.isSome_iff_exists.mp n
  exact ((hc.e hz).nb a m).2
theorem kit_o (hc : Hc K) {C X : String} (m : inT C = true) (n : inT X = true) : PySem.W.kitOne K (.ref (ga K C)) (.ref (ga K X)) = some (isSub C X) := by
  obtain ⟨z, hz⟩ := Option.isSome_iff_exists.mp m
  obtain ⟨x, hx⟩ := Option.isSome_iff_exists.mp n
  unfold isSub
  rw [hz]
  exact (hc.e hz).sub (X, x) (lookup_mem hx)
theorem kit_ob (hc : Hc K) {C b : String} (m : inT C = true) (n : b ∈ bTys) : PySem.W.kitOne K (.ref (ga K C)) (.type b) = some false := by
  obtain ⟨z, hz⟩ := Option.isSome_iff_exists.mp m
  exact ((hc.e hz).nb b n).1
/-- what stands in d's place is of an own class or a built-in's -/
inductive Kd (K : PySem.W.Frag) (s : Sto) (d : Dx) : Prop
  | b (a : String) (m : a ∈ bTys) (e : tv K s d = .type a) (c : ∀ X, isCl s X d = some false) (t : ∀ b, isTy s b d = some (decide (b = a) || (decide (a = "bool") && decide (b = "int"))))
  | o (C : String) (m : inT C = true) (e : tv K s d = .ref (ga K C)) (c : ∀ X, isCl s X d = some (isSub C X)) (t : ∀ b, isTy s b d = some false)
  | n (c : ∀ X, isCl s X d = none) (t : ∀ b, isTy s b d = none)
theorem Rv.kd (R : Rel K w H s) {v : V} {d : Dx} (h : Rv K w.r (w.G H) v d) : Kd K s d := by
  cases h with
  | int i => exact .b "int" (by decide) rfl (fun _ => rfl) fun b => by simp [isTy]
  | bl b => exact .b "bool" (by decide) rfl (fun _ => rfl) fun b => by simp [isTy]
  | non => exact .b "NoneType" (by decide) rfl (fun _ => rfl) fun b => by simp [isTy]
  | str z => exact .b "str" (by decide) rfl (fun _ => rfl) fun b => by simp [isTy]
  | tup h _ => exact .b "tuple" (by decide) rfl (fun _ => rfl) fun b => by simp [isTy]
  | lst h _ => exact .b "list" (by decide) rfl (fun _ => rfl) fun b => by simp [isTy]
  | dct h => exact .b "dict" (by decide) rfl (fun _ => rfl) fun b => by simp [isTy]
  | obj h m _ _ => exact .o _ m rfl (fun _ => rfl) fun _ => rfl
  | fro => exact .n (fun _ => rfl) fun _ => rfl
  | cls => exact .n (fun _ => rfl) fun _ => rfl
  | ty => exact .n (fun _ => rfl) fun _ => rfl
  | cell h =>
    rename_i n a
    cases hs : s[n]? with
    | none => exact .n (fun _ => by simp [isCl, hs]) fun _ => by simp [isTy, hs]
    | some c =>
      obtain ⟨o, h1, h2⟩ := R.at_ h hs
      cases h2 with
      | lst l => exact .b "list" (by decide) (by simp [tv, hs]) (fun _ => by simp [isCl, hs]) fun b => by simp [isTy, hs]
      | obj m f l => exact .o _ m (by simp [tv, hs]) (fun _ => by simp [isCl, hs]) fun b => by simp [isTy, hs]
theorem isD1_ok (hc : Hc K) (R : Rel K w H s) {v c : V} {d e : Dx} (h : Rv K w.r (w.G H) v d) (k : Rv K w.r (w.G H) c e) {b : Bool} (q : isD1 s d e = some b) :
    ∃ u, ClsV c u ∧ tv K s d ≠ .none ∧ PySem.W.kitOne K (tv K s d) u = some b := by
  unfold isD1 at q
  split at q
  · cases k
    split at q
    · rename_i X hX
      refine ⟨_, .own _, ?_⟩
      cases h.kd R with
      | b a m e2 c2 t =>
        rw [c2] at q; cases q
        rw [e2]; exact ⟨nofun, kit_c hc m hX⟩
      | o C m e2 c2 t =>
        rw [c2] at q; cases q
        rw [e2]; exact ⟨nofun, kit_o hc m hX⟩
      | n c2 t => rw [c2] at q; cases q
    · cases q
  · cases k
    split at q
    · rename_i B hB
      have hB := List.contains_iff_mem.mp hB
      refine ⟨_, .ty _, ?_⟩
      cases h.kd R with
      | b a m e2 c2 t =>
        rw [t] at q; cases q
        rw [e2]; exact ⟨nofun, kit_b m hB⟩
      | o C m e2 c2 t =>
        rw [t] at q; cases q
        rw [e2]; exact ⟨nofun, kit_ob hc m hB⟩
      | n c2 t => rw [t] at q; cases q
    · cases q
  · cases q
theorem isDs_ok (hc : Hc K) (R : Rel K w H s) {v : V} {d : Dx} (h : Rv K w.r (w.G H) v d) : ∀ {cs : List V} {es : List Dx}, RvL K w.r (w.G H) cs es → ∀ {b : Bool}, isDs s d es = some b → ∃ us, Paired ClsV cs us ∧ PySem.W.kitAny K (tv K s d) us = some b
  | _, _, .nil, b, q => by cases q; exact ⟨[], .nil, rfl⟩
  | _, _, .cons k l, b, q => by
    simp only [isDs] at q
    split at q
    · rename_i a2 b2 q1 q2
      cases q
      obtain ⟨u, h1, _, h2⟩ := isD1_ok hc R h k q1
      obtain ⟨us, h3, h4⟩ := isDs_ok hc R h l q2
      refine ⟨u :: us, .cons h1 h3, ?_⟩
      simp only [PySem.W.kitAny]
      rw [h2]
      cases a2 with
      | true => rfl
      | false => exact h4
    · cases q
end
section
variable {X : Cx}
theorem isiD_is (ds : List Dx) (s : Sto) : isiD ds s = match ds with
  | [d, c] => (match isD1 s d c with
    | some b => .ok (.bl b) s
    | none => .stuck)
  | _ => .stuck := by
  match ds with
  | [] => rfl
  | [_] => rfl
  | [d, c] => rfl
  | _ :: _ :: _ :: _ => rfl
theorem cm_isi (hc : Hc X.K) : CallM X (.builtin "isinstance") isiD := by
  refine ⟨_, call_isi, ?_⟩
  intro w H s xs ds Q E R hx h
  rw [isiD_is] at h
  split at h
  · cases hx with | cons hx l => cases l with | cons hy l =>
    cases l
    split at h
    · rename_i b hb
      obtain ⟨u, h1, h2, h3⟩ := isD1_ok hc R hx hy hb
      exact ⟨_, _, _, _, b, rfl, h1, hx.tyx hc R h2, h3, Fin.now h R (.bl _)⟩
    · exact h.elim
  · exact h.elim
end
section
variable {K : PySem.W.Frag} {p : Px} {W : WX}
theorem i_isiT {ma : ME} {ms : MA} (hc : Hc K) : ∀ σ H Q, cE K p W (eIsT ma ms) σ H Q → tCB (rIsiT K) (tCons (cE K p W ma) (tCons (tTup (cA K p W ms)) tNil)) σ H Q := fun σ H Q ⟨w, e, s, R, E, h⟩ =>
  ⟨w, e, s, R, E, Fin.bind h fun d s1 w1 H1 v x1 R1 r1 h1 => ⟨w1, e, s1, R1, E.ext x1, Fin.bind h1 fun d2 s2 w2 H2 v2 x2 R2 r2 h2 => by
    split at h2
    · rename_i hl
      split at h2
      · rename_i b hb
        have hn : tv K s2 d ≠ .none := by
          cases r2 with
          | nil => cases hl.1
          | cons k l =>
            simp only [isDs] at hb
            split at hb
            · rename_i q1 q2
              obtain ⟨_, _, h3, _⟩ := isD1_ok hc R2 (r1.ext x2) k q1
              exact h3
            · cases hb
        refine ⟨by rw [r2.len]; exact most_le hl.2, fun tp n => ?_⟩
        obtain ⟨r3, e3, g3⟩ := R2.new n (.tup v2)
        obtain ⟨us, h3, h4⟩ := isDs_ok hc R2 (r1.ext x2) r2 hb
        exact ⟨v, tp, v2, _, us, b, rfl, upd_same, h3, ((r1.ext x2).ext e3).tyx hc r3 hn, h4, h2 w2 _ _ e3 r3 (.bl b)⟩
      · exact h2.elim
    · exact h2.elim⟩⟩
end
end Ps

/-! # soundness: fields, objects, methods, exceptions held -/
namespace Ps
open PySem PySem.Spec PyProof.Rows L2 Vs He Pm
/-! ## a hidden address -/
structure ExtH (D : Addr) (w : Wd) (H : Hp) (w' : Wd) (H' : Hp) : Prop where
  h : w'.h = D :: w.h
  r : ∃ t, w'.r = w.r ++ t
  s : Same (w.G H) (w'.G H')
  k : ∀ a ∈ w.h, H' a = H a
  n : D ∉ w.h
section
variable {K : PySem.W.Frag} {w w1 w2 : Wd} {H H1 H2 : Hp} {s : Sto} {D : Addr}
theorem ExtH.pre (e : ExtH D w H w1 H1) : Pre w.r w1.r := by
  obtain ⟨t, h⟩ := e.r
  rw [h]; exact Pre.app _ _
theorem ExtH.trans {z : List Addr} (e : ExtH D w H w1 H1) (f : Ext z w1 H1 w2 H2) (hz : ∀ a ∈ z, a = D) : ExtH D w H w2 H2 := by
  obtain ⟨t, ht⟩ := e.r
  obtain ⟨u, hu⟩ := f.r
  refine ⟨f.h.trans e.h, ⟨t ++ u, by rw [hu, ht, List.append_assoc]⟩, Same.trans e.s f.s, fun a ha => ?_, e.n⟩
  rw [f.k a (by rw [e.h]; exact List.mem_cons_of_mem _ ha) (fun hq => e.n (hz a hq ▸ ha)), e.k a ha]
theorem Rel.hide (R : Rel K w H s) (n : H D = none) (o : HO) : Rel K ⟨w.r, D :: w.h⟩ (upd H D o) s ∧ ExtH D w H ⟨w.r, D :: w.h⟩ (upd H D o) := by
  have nf := R.free n
  have ne : ∀ b ∈ w.h ++ w.r, b ≠ D := fun b hb q => nf (q ▸ hb)
  have g : Same (w.G H) (Wd.G ⟨w.r, D :: w.h⟩ (upd H D o)) := fun b u h => by
    obtain ⟨h1, h2⟩ := hid_some h
    have nb := ne_of_none h2 n
    show hid ((D :: w.h) ++ w.r) (upd H D o) b = some u
    rw [hid_out, upd_ne nb]
    · exact h2
    · rw [List.cons_append, List.mem_cons]
      exact fun z => z.elim nb h1
  refine ⟨⟨?_, fun a ha => ?_, R.len, fun m c hm => ?_⟩, ⟨rfl, ⟨[], by simp⟩, g, fun a ha => upd_ne (ne a (List.mem_append_left _ ha)), fun z => nf (List.mem_append_left _ z)⟩⟩
  · show (D :: w.h ++ w.r).Nodup
    rw [List.cons_append, List.nodup_cons]
    exact ⟨nf, R.nd⟩
  · rcases List.mem_cons.mp ha with rfl | ha
    · rw [upd_same]; exact nofun
    · rw [upd_ne (ne a (List.mem_append_left _ ha))]; exact R.al a ha
  · obtain ⟨a, u, h1, h2, h3⟩ := R.ce m c hm
    refine ⟨a, u, h1, ?_, h3.mono g (Pre.refl _)⟩
    rw [upd_ne (ne a (List.mem_append_right _ (List.mem_of_getElem? h1)))]; exact h2
theorem Rel.unhide (R : Rel K w1 H1 s) (e : ExtH D w H w1 H1) : Rel K ⟨w1.r, w.h⟩ H1 s ∧ Ext [] w H ⟨w1.r, w.h⟩ H1 ∧ Same (w1.G H1) (Wd.G ⟨w1.r, w.h⟩ H1) ∧ Wd.G ⟨w1.r, w.h⟩ H1 D = H1 D := by
  have nd := R.nd
  rw [e.h, List.cons_append, List.nodup_cons] at nd
  have g : Same (w1.G H1) (Wd.G ⟨w1.r, w.h⟩ H1) := fun b u h => by
    obtain ⟨h1, h2⟩ := hid_some h
    show hid (w.h ++ w1.r) H1 b = some u
    rw [hid_out]
    · exact h2
    · rw [e.h, List.cons_append, List.mem_cons] at h1
      exact fun z => h1 (.inr z)
  refine ⟨⟨nd.2, fun a ha => R.al a (by rw [e.h]; exact List.mem_cons_of_mem _ ha), R.len, fun m c hm => ?_⟩, ⟨rfl, e.r, Same.trans e.s g, fun a ha _ => e.k a ha⟩, g, hid_out nd.1⟩
  obtain ⟨a, u, h1, h2, h3⟩ := R.ce m c hm
  exact ⟨a, u, h1, h2, h3.mono g (Pre.refl _)⟩
/-- the hidden one becomes a cell -/
theorem Rel.unhideC (R : Rel K w1 H1 s) (e : ExtH D w H w1 H1) {o : HO} {c : Cl} (ho : H1 D = some o) (hc : Rc K w1.r (w1.G H1) o c) : Rel K ⟨w1.r ++ [D], w.h⟩ H1 (s ++ [c]) ∧ Ext [] w H ⟨w1.r ++ [D], w.h⟩ H1 := by
  have nd := R.nd
  rw [e.h, List.cons_append, List.nodup_cons] at nd
  have g : Same (w1.G H1) (Wd.G ⟨w1.r ++ [D], w.h⟩ H1) := fun b u h => by
    obtain ⟨h1, h2⟩ := hid_some h
    show hid (w.h ++ (w1.r ++ [D])) H1 b = some u
    rw [hid_out]
    · exact h2
    · rw [e.h, List.cons_append, List.mem_cons] at h1
      simp only [List.mem_append, List.mem_singleton] at h1 ⊢
      exact fun z => z.elim (fun z => h1 (.inr (.inl z))) fun z => z.elim (fun z => h1 (.inr (.inr z))) fun z => h1 (.inl z)
  obtain ⟨t, ht⟩ := e.r
  refine ⟨⟨?_, fun a ha => R.al a (by rw [e.h]; exact List.mem_cons_of_mem _ ha), by simp [R.len], fun m d hm => ?_⟩, ⟨rfl, ⟨t ++ [D], by show w1.r ++ [D] = _; rw [ht, List.append_assoc]⟩, Same.trans e.s g, fun a ha _ => e.k a ha⟩⟩
  · show (w.h ++ (w1.r ++ [D])).Nodup
    rw [← List.append_assoc]
    refine List.nodup_append.mpr ⟨nd.2, by simp, fun x hx y hy => ?_⟩
    rw [List.mem_singleton] at hy
    subst hy
    exact fun q => nd.1 (q ▸ hx)
  · by_cases hl : m < s.length
    · rw [List.getElem?_append_left hl] at hm
      obtain ⟨a, u, h1, h2, h3⟩ := R.ce m d hm
      exact ⟨a, u, Pre.app _ _ _ _ h1, h2, h3.mono g (Pre.app _ _)⟩
    · have hm2 : m = s.length := by
        have := (List.getElem?_eq_some_iff.mp hm).1
        simp at this
        omega
      subst hm2
      simp at hm
      subst hm
      refine ⟨D, o, ?_, ho, hc.mono g (Pre.app _ _)⟩
      show (w1.r ++ [D])[s.length]? = some D
      rw [← R.len]
      simp
end
/-! ## fields -/
section
variable {K : PySem.W.Frag} {p : Px} {W : WX}
theorem i_fld (hc : Hc K) {f : String} {ma : ME} : ∀ σ H Q, cE K p W (eUn (fldD f) ma) σ H Q → tFld K (cE K p W ma) (Str.ofString f) σ H Q := fun σ H Q ⟨w, e, s, R, E, h⟩ =>
  ⟨w, e, s, R, E, Fin.bind h fun d s1 w1 H1 v x1 R1 r1 h1 => by
    unfold fldD at h1
    split at h1
    · rename_i C fs ho
      split at h1
      · rename_i u hu
        obtain ⟨a, dx, gs, rfl, h2, h3, h4, h5⟩ := r1.asO R1 ho
        obtain ⟨v, h6, h7⟩ := h5.look hu
        have hf : hasF C f = true := List.all_eq_true.mp h4 _ (lookup_mem hu)
        exact ⟨a, _, dx, gs, v, rfl, h2, hc.cls h3, hc.na hf, h6, Fin.now h1 R1 h7⟩
      · exact h1.elim
    · exact h1.elim⟩
/-! ## new objects -/
theorem i_make0 {C : String} (m : inT C = true) : ∀ σ H Q, cE K p W (eMake0 C) σ H Q → tMake0 (ga K C) σ H Q := fun σ H Q ⟨w, e, s, R, E, h⟩ x dx hx hd ne => by
  obtain ⟨R1, e1, _⟩ := R.new hd (.own x)
  obtain ⟨R2, e2, g2⟩ := R1.new (a := x) (by rw [upd_ne (Ne.symm ne)]; exact hx) (.ins (ga K C) dx [])
  exact h w _ _ (e1.trans e2) R2 (.obj g2 m rfl .nil)
/-- what is wanted of an __init__ -/
def FinI (K : PySem.W.Frag) (w : Wd) (H : Hp) (a dx : Addr) (C : String) (Q : VK) (X : XK) : R Fs → Prop
  | .ok fs s => ∀ w' H' gs, Ext [a] w H w' H' → Rel K w' H' s → H' a = some (.ins (ga K C) dx gs) → (fs.all fun q => hasF C q.1) = true → RvF K w'.r (w'.G H') gs fs → Q .non H'
  | .exc C' fs s => ∀ w' H' d, Ext [a] w H w' H' → Rel K w' H' s → inX C' = true → Rx K w'.r (w'.G H') d fs → X (.ref (ga K C')) d H'
  | .stuck => False
def spI (K : PySem.W.Frag) (L : List String) (f : MI) : Sp := fun vs H Q E => ∃ (w : Wd) (a dx : Addr) (C : String) (us : List V) (ds : List Dx) (s : Sto), vs = .ref a :: us ∧ Rel K w H s ∧ a ∈ w.h ∧ H a = some (.ins (ga K C) dx []) ∧ inT C = true ∧ (L.all fun f => hasF C f) = true ∧ RvL K w.r (w.G H) us ds ∧ FinI K w H a dx C Q E (f ds s)
theorem make_tree {f : MI} {L : List String} {C : String} (m : inT C = true) (hl : (L.all fun f => hasF C f) = true) {w : Wd} {H : Hp} {s : Sto} {vs : List V} {ds : List Dx} {Q : VK} {X : XK} (R : Rel K w H s) (l : RvL K w.r (w.G H) vs ds)
    (h : Fin K w H (Rv K) Q X ((f ds s).bind fun fs s2 => .ok (.obj C fs) s2)) (a b : Addr) (ha : H a = none) (hb : H b = none ∧ b ≠ a) :
    spI K L f (.ref a :: vs) (upd (upd H b (.own a)) a (.ins (ga K C) b [])) (fun v H2 => v = .non ∧ Q (.ref a) H2) X := by
  obtain ⟨R1, e1, _⟩ := R.new hb.1 (.own a)
  have na : upd H b (.own a) a = none := by rw [upd_ne (Ne.symm hb.2)]; exact ha
  obtain ⟨R2, e2⟩ := R1.hide na (.ins (ga K C) b [])
  refine ⟨⟨w.r, a :: w.h⟩, a, b, C, vs, ds, s, rfl, R2, List.mem_cons_self, upd_same, m, hl, (l.ext e1).mono e2.s e2.pre, ?_⟩
  have hz : ∀ c ∈ [a], c = a := fun c hc => List.mem_singleton.mp hc
  cases hr : f ds s with
  | ok fs s2 =>
    rw [hr] at h
    intro w' H' gs x3 R3 h3 h4 l3
    obtain ⟨R4, e4, g4, d4⟩ := R3.unhide (e2.trans x3 hz)
    exact ⟨rfl, h _ _ _ (e1.trans e4) R4 (.obj (d4.trans h3) m h4 (l3.mono g4 (Pre.refl _)))⟩
  | exc C' fs s2 =>
    rw [hr] at h
    intro w' H' d x3 R3 h3 h4
    obtain ⟨R4, e4, g4, d4⟩ := R3.unhide (e2.trans x3 hz)
    exact h _ _ _ (e1.trans e4) R4 h3 (h4.mono g4 (Pre.refl _))
  | stuck => rw [hr] at h; exact h
theorem i_make {C : String} {L : List String} {f : MI} {ms : MA} (m : inT C = true) (hl : (L.all fun f => hasF C f) = true) : ∀ σ H Q, cE K p W (eMake C f ms) σ H Q → tMakeS (ga K C) (spI K L f) (WE W) (cA K p W ms) σ H Q := fun σ H Q ⟨w, e, s, R, E, h⟩ =>
  ⟨w, e, s, R, E, Fin.bind h fun d s1 w1 H1 v x1 R1 r1 h1 => fun a b ha hb => make_tree m hl R1 r1 h1 a b ha hb⟩
/-- with defaults behind the arguments -/
def tMakeSD (C : Addr) (sp : Sp) (us : List V) (E : L2.St → XK) (t : TA) : TE := fun σ H Q => t σ H fun vs H1 => ∀ a b, H1 a = none → (H1 b = none ∧ b ≠ a) →
  sp (.ref a :: (vs ++ us)) (upd (upd H1 b (.own a)) a (.ins C b [])) (fun v H2 => v = .non ∧ Q (.ref a) H2) (E σ)
theorem i_makeD {C : String} {L : List String} {f : MI} {ms : MA} {us : List V} {dv : List Dx} (k : RvC K us dv) (m : inT C = true) (hl : (L.all fun f => hasF C f) = true) : ∀ σ H Q, cE K p W (eMakeD C f dv ms) σ H Q → tMakeSD (ga K C) (spI K L f) us (WE W) (cA K p W ms) σ H Q := fun σ H Q ⟨w, e, s, R, E, h⟩ =>
  ⟨w, e, s, R, E, Fin.bind h fun d s1 w1 H1 v x1 R1 r1 h1 => fun a b ha hb => make_tree m hl R1 (r1.app (k _ _)) h1 a b ha hb⟩
/-- an object that changes -/
theorem i_makeC {C : String} {f : MF} {ms : MA} (m : inT C = true) : ∀ σ H Q, cE K p W (eMakeC C f ms) σ H Q → tMakeS (ga K C) (spM K f) (WE W) (cA K p W ms) σ H Q := fun σ H Q ⟨w, e, s, R, E, h⟩ =>
  ⟨w, e, s, R, E, Fin.bind h fun d s1 w1 H1 v x1 R1 r1 h1 => fun a b ha hb => by
    obtain ⟨R2, e2, _⟩ := R1.new hb.1 (.own a)
    have na : upd H1 b (.own a) a = none := by rw [upd_ne (Ne.symm hb.2)]; exact ha
    obtain ⟨R3, e3⟩ := R2.newC na (o := .ins (ga K C) b []) (c := .obj C []) (.obj m rfl .nil)
    have hw : (w1.r ++ [a])[s1.length]? = some a := by rw [← R1.len]; simp
    refine ⟨_, _, _, R3, .cons (.cell hw) ((r1.ext e2).ext e3), Fin.bind (Fin.ext h1 (e2.trans e3)) fun d4 s4 w4 H4 v4 x4 R4 r4 h4 => ?_⟩
    split at h4
    · cases r4
      exact ⟨rfl, Fin.now h4 R4 (.cell (x4.pre _ _ hw))⟩
    · exact h4.elim⟩
/-! ## methods -/
def tMethS (C : Addr) (m : Str) (sp : Sp) (E : L2.St → XK) (ta : TE) (t : TA) : TE := fun σ H Q => ta σ H fun x H1 => ∃ a dx fs, x = .ref a ∧ H1 a = some (.ins C dx fs) ∧ fs.lookup m = none ∧ t σ H1 fun vs H2 => sp (x :: vs) H2 Q (E σ)
def altM (K : PySem.W.Frag) (m : String) (E : L2.St → XK) (ta : TE) (t : TA) : List (String × MF) → TE
  | [] => fun _ _ _ => False
  | (C, f) :: r => tAlt (tMethS (ga K C) m (spM K f) E ta t) (altM K m E ta t r)
theorem altM_in {m : String} {E : L2.St → XK} {ta : TE} {t : TA} {σ : L2.St} {H : Hp} {Q : VK} {C : String} {f : MF} : ∀ {l : List (String × MF)}, l.lookup C = some f → tMethS (ga K C) m (spM K f) E ta t σ H Q → altM K m E ta t l σ H Q
  | [], h, _ => by cases h
  | (D, g) :: l, h, q => by
    rw [List.lookup_cons] at h
    by_cases e : C = D
    · subst e
      simp only [beq_self_eq_true] at h
      cases h
      exact .inl q
    · have : (C == D) = false := by simpa using e
      rw [this] at h
      exact .inr (altM_in h q)
theorem i_methG {l : List (String × MF)} {m : String} {ma : ME} {ms : MA} {t : TA} (it : ∀ σ H Q, cA K p W ms σ H Q → t σ H Q) (hm : (l.all fun q => !hasF q.1 m) = true) : ∀ σ H Q, cE K p W (eMeth l ma ms) σ H Q → altM K m (WE W) (cE K p W ma) t l σ H Q := fun σ H Q ⟨w, e, s, R, E, h⟩ => by
  unfold eMeth at h
  cases hr : ma e s with
  | stuck => rw [hr] at h; exact h.elim
  | exc C fs s1 => rw [hr] at h; exact h.elim
  | ok d s1 =>
    rw [hr] at h
    simp only [Pm.R.calm, Pm.R.bind] at h
    cases ho : Pm.asO s1 d with
    | none => rw [ho] at h; exact h.elim
    | some q =>
      obtain ⟨C, fs⟩ := q
      rw [ho] at h
      simp only at h
      cases hf : l.lookup C with
      | none => rw [hf] at h; exact h.elim
      | some f =>
        rw [hf] at h
        simp only at h
        refine altM_in hf ⟨w, e, s, R, E, ?_⟩
        rw [hr]
        intro w1 H1 v x1 R1 r1
        obtain ⟨a, dx, gs, rfl, h2, h3, h4, h5⟩ := r1.asO R1 ho
        have hm1 : hasF C m = false := by
          have := List.all_eq_true.mp hm _ (lookup_mem hf)
          simpa using this
        have hn : fs.lookup m = none := by
          cases hl : fs.lookup m with
          | none => rfl
          | some u =>
            have := List.all_eq_true.mp h4 _ (lookup_mem hl)
            simp only at this
            rw [hm1] at this
            cases this
        refine ⟨a, dx, gs, rfl, h2, h5.none hn, it _ _ _ ⟨w1, e, s1, R1, E.ext x1, Fin.bind (Fin.ext h x1) fun d2 s2 w2 H2 v2 x2 R2 r2 h6 => ?_⟩⟩
        exact ⟨w2, _, s2, R2, .cons (r1.ext x2) r2, h6⟩
theorem i_meth {l : List (String × MF)} {m : String} {ma : ME} {ms : MA} (hm : (l.all fun q => !hasF q.1 m) = true) : ∀ σ H Q, cE K p W (eMeth l ma ms) σ H Q → altM K m (WE W) (cE K p W ma) (cA K p W ms) l σ H Q := i_methG (fun _ _ _ h => h) hm
theorem i_meth0 {l : List (String × MF)} {m : String} {ma : ME} (hm : (l.all fun q => !hasF q.1 m) = true) : ∀ σ H Q, cE K p W (eMeth l ma aNil) σ H Q → altM K m (WE W) (cE K p W ma) tNil l σ H Q := i_methG i_nil hm
end
end Ps

/-! # soundness: walks, loops, statements -/
namespace Ps
open PySem PySem.Spec PyProof.Rows L2 Vs He Pm
abbrev cS (K : PySem.W.Frag) (p : Px) (W : WX) (m : MS) : TS := fun D σ H => ∃ w e s, Rel K w H s ∧ RelE K p w H e σ ∧ FinS K p w H D W (m e s)
abbrev cG (K : PySem.W.Frag) (p : Px) (ws : List Nat) (m : MG) : TG := fun v σ H P => ∃ w e s d e', Rel K w H s ∧ RelE K p w H e σ ∧ Rv K w.r (w.G H) v d ∧ m d e s = some e' ∧ ∀ σ', RelE K p w H e' σ' → (∀ vs, (∀ i ∈ ws, i ∈ vs) → L2.wipe σ' vs = L2.wipe σ vs) → P σ' H
abbrev cGs (K : PySem.W.Frag) (p : Px) (ws : List Nat) (m : MGs) : TGs := fun us σ H P => ∃ w e s ds e', Rel K w H s ∧ RelE K p w H e σ ∧ RvL K w.r (w.G H) us ds ∧ m ds e s = some e' ∧ ∀ σ', RelE K p w H e' σ' → (∀ vs, (∀ i ∈ ws, i ∈ vs) → L2.wipe σ' vs = L2.wipe σ vs) → P σ' H
/-- an iterator over these items -/
abbrev relI (K : PySem.W.Frag) : List Addr → Hp → It → (List Dx × Option Nat) → Prop := fun r G J x => ∀ w H s, Pre r w.r → Same G (w.G H) → Rel K w H s → stands x.2 x.1 s → J.stop x.1.length H ∧ ∀ i d, x.1[i]? = some d → J.go i H ∧ ∀ v H', J.yld i H v H' → H' = H ∧ Rv K w.r (w.G H) v d
abbrev cI (K : PySem.W.Frag) (p : Px) (W : WX) (m : MW) : TI := fun σ H Q => ∃ w e s, Rel K w H s ∧ RelE K p w H e σ ∧ Fin K w H (relI K) Q (WE W σ) (m e s)
section
variable {X : Cx}
theorem imS {st : Stmt} {t u : TS} (i : ∀ D σ H, u D σ H → t D σ H) (h : PS X st t) : PS X st u := ⟨fun pins s σ H D I q => h.run pins s σ H D I (i D σ H q)⟩
theorem imSs {st : List Stmt} {t u : TS} (i : ∀ D σ H, u D σ H → t D σ H) (h : PSs X st t) : PSs X st u := ⟨fun pins s σ H D I q => h.run pins s σ H D I (i D σ H q)⟩
theorem imG {e : Expr} {t u : TG} (i : ∀ v σ H Q, u v σ H Q → t v σ H Q) (h : PG X e t) : PG X e u := ⟨fun pins s σ H v x Q I r q => h.run pins s σ H v x Q I r (i v σ H Q q)⟩
theorem imGs {e : List Expr} {t u : TGs} (i : ∀ v σ H Q, u v σ H Q → t v σ H Q) (h : PGs X e t) : PGs X e u := ⟨fun pins s σ H v x Q I r q => h.run pins s σ H v x Q I r (i v σ H Q q)⟩
theorem imI {tg e : Expr} {t u : TI} (i : ∀ σ H Q, u σ H Q → t σ H Q) (h : PI X tg e t) : PI X tg e u := ⟨fun pins s σ H Q I q => h.run pins s σ H Q I (i σ H Q q)⟩
end
section
variable {K : PySem.W.Frag} {p : Px} {W : WX}
/-! ## targets -/
theorem wipe_at : ∀ (vs : List Nat) (σ : L2.St) (j : Nat), (L2.wipe σ vs)[j]? = if j ∈ vs ∧ j < σ.length then some none else σ[j]?
  | [], σ, j => by simp [L2.wipe]
  | v :: vs, σ, j => by
    have ih := wipe_at vs σ j
    have hl : ∀ ws : List Nat, (L2.wipe σ ws).length = σ.length := by
      intro ws
      induction ws with
      | nil => rfl
      | cons a ws ih => simp [L2.wipe, ih]
    unfold L2.wipe
    by_cases q : v = j
    · subst q
      by_cases hj : v < σ.length
      · rw [List.getElem?_set_self (by rw [hl]; exact hj), if_pos ⟨List.mem_cons_self, hj⟩]
      · rw [if_neg fun z => hj z.2, List.getElem?_eq_none (by simp [hl]; omega), List.getElem?_eq_none (by omega)]
    · rw [List.getElem?_set_ne q, ih]
      have : (j ∈ v :: vs) ↔ j ∈ vs := by rw [List.mem_cons]; exact ⟨fun z => z.elim (fun z => absurd z.symm q) id, .inr⟩
      simp only [this]
theorem wipe_set {σ : L2.St} {i : Nat} {x : Option V} {vs : List Nat} (h : i ∈ vs) : L2.wipe (σ.set i x) vs = L2.wipe σ vs := by
  apply List.ext_getElem?
  intro j
  rw [wipe_at, wipe_at, List.length_set]
  by_cases q : i = j
  · subst q
    by_cases hj : i < σ.length
    · rw [if_pos ⟨h, hj⟩, if_pos ⟨h, hj⟩]
    · rw [if_neg fun z => hj z.2, if_neg fun z => hj z.2, List.getElem?_eq_none (by simp; omega), List.getElem?_eq_none (by omega)]
  · rw [List.getElem?_set_ne q]
theorem i_hNm {i : Nat} (hf : p.free i) : ∀ v σ H Q, cG K p [i] (hNm i) v σ H Q → gName i v σ H Q := fun v σ H Q ⟨w, e, s, d, e', R, E, r, q, h⟩ => by
  cases q
  exact h _ (E.set r hf) fun vs hv => wipe_set (hv i (List.mem_singleton.mpr rfl))
theorem i_hNil : ∀ v σ H Q, cGs K p [] hNil v σ H Q → gNil v σ H Q := fun v σ H Q ⟨w, e, s, d, e', R, E, r, q, h⟩ => by
  unfold hNil at q
  split at q
  · cases q; cases r; exact ⟨rfl, h σ E fun _ _ => rfl⟩
  · cases q
theorem i_hCons {ws us : List Nat} {g : MG} {gs : MGs} : ∀ v σ H Q, cGs K p (ws ++ us) (hCons g gs) v σ H Q → gCons (cG K p ws g) (cGs K p us gs) v σ H Q := fun v σ H Q ⟨w, e, s, d, e', R, E, r, q, h⟩ => by
  unfold hCons at q
  split at q
  · obtain ⟨e1, q1, q2⟩ := Option.bind_eq_some_iff.mp q
    cases r with
    | cons r l =>
      refine ⟨_, _, rfl, w, e, s, _, e1, R, E, r, q1, fun σ1 E1 w1 => ⟨w, e1, s, _, e', R, E1, l, q2, fun σ2 E2 w2 => h σ2 E2 fun vs hv => ?_⟩⟩
      rw [w2 vs fun i hi => hv i (List.mem_append_right _ hi), w1 vs fun i hi => hv i (List.mem_append_left _ hi)]
  · cases q
theorem i_hTup {ws : List Nat} {n : Nat} {gs : MGs} : ∀ v σ H Q, cG K p ws (hTup n gs) v σ H Q → gTup K n (cGs K p ws gs) v σ H Q := fun v σ H Q ⟨w, e, s, d, e', R, E, r, q, h⟩ => by
  unfold hTup at q
  split at q
  · cases r with
    | tup h1 l =>
      split at q
      · rename_i hn
        exact ⟨_, _, rfl, seqT_same hid_same h1, by rw [l.len]; exact hn, w, e, s, _, e', R, E, l, q, h⟩
      · cases q
  · cases q
/-! ## what is walked -/
theorem relI_list {a : Addr} {vs : List V} {ds : List Dx} {r : List Addr} {G : Hp} (h : SqL K G a vs) (l : RvL K r G vs ds) : relI K r G (Itl K a) (ds, none) := fun w H s pr sm R st => by
  have h2 : SqL K H a vs := seqL_same (Same.trans sm hid_same) h
  refine ⟨⟨vs, h2, by rw [l.len]; exact Nat.le_refl _⟩, fun i d hd => ?_⟩
  obtain ⟨v, hv, rv⟩ := l.at_ hd
  refine ⟨⟨vs, v, h2, hv⟩, fun x H' hy => ?_⟩
  obtain ⟨rfl, hy⟩ := hy
  have := hy vs h2
  rw [hv] at this
  cases this
  exact ⟨rfl, rv.mono sm pr⟩
theorem relI_tup {a : Addr} {vs : List V} {ds : List Dx} {r : List Addr} {G : Hp} (h : SqT K G a vs) (l : RvL K r G vs ds) : relI K r G (Itt K a) (ds, none) := fun w H s pr sm R st => by
  have h2 : SqT K H a vs := seqT_same (Same.trans sm hid_same) h
  refine ⟨⟨vs, h2, by rw [l.len]; exact Nat.le_refl _⟩, fun i d hd => ?_⟩
  obtain ⟨v, hv, rv⟩ := l.at_ hd
  refine ⟨⟨vs, v, h2, hv⟩, fun x H' hy => ?_⟩
  obtain ⟨rfl, hy⟩ := hy
  have := hy vs h2
  rw [hv] at this
  cases this
  exact ⟨rfl, rv.mono sm pr⟩
theorem relI_cell {a : Addr} {n : Nat} {ds : List Dx} {r : List Addr} {G : Hp} (h : r[n]? = some a) : relI K r G (Itl K a) (ds, some n) := fun w H s pr sm R st => by
  obtain ⟨o, h1, h2⟩ := R.at_ (pr _ _ h) st
  cases h2 with
  | lst l =>
    rename_i vs
    refine ⟨⟨vs, SqL.of h1, by rw [l.len]; exact Nat.le_refl _⟩, fun i d hd => ?_⟩
    obtain ⟨v, hv, rv⟩ := l.at_ hd
    refine ⟨⟨vs, v, SqL.of h1, hv⟩, fun x H' hy => ?_⟩
    obtain ⟨rfl, hy⟩ := hy
    have := hy vs (SqL.of h1)
    rw [hv] at this
    cases this
    exact ⟨rfl, rv⟩
theorem relI_str {z : Tx} {r : List Addr} {G : Hp} (hz : okT z) : relI K r G (Its (tS z)) (z.map fun c => .str [c], none) := fun w H s pr sm R st => by
  have hs : (tS z).cps.size = z.length := by simp [tS]
  refine ⟨by show (tS z).cps.size ≤ _; rw [hs]; simp, fun i d hd => ?_⟩
  rw [List.getElem?_map] at hd
  obtain ⟨c, hc, rfl⟩ := Option.map_eq_some_iff.mp hd
  have hi : i < z.length := (List.getElem?_eq_some_iff.mp hc).1
  refine ⟨by show i < (tS z).cps.size; rw [hs]; exact hi, fun x H' hy => ?_⟩
  obtain ⟨rfl, c', hc', rfl⟩ := hy
  have e : (tS z).cps[i]? = z[i]? := by simp [tS]
  rw [e, hc] at hc'
  cases hc'
  refine ⟨rfl, ?_⟩
  have : (⟨#[c]⟩ : Str) = tS [c] := rfl
  rw [this]
  exact .str fun q hq => by rw [List.mem_singleton] at hq; subst hq; exact hz _ (List.mem_of_getElem? hc)
theorem relI_rng {lo : Int} {n : Nat} {r : List Addr} {G : Hp} : relI K r G (Itr lo n) (rng lo n, none) := fun w H s pr sm R st => by
  refine ⟨by show n ≤ _; simp [rng], fun i d hd => ?_⟩
  unfold rng at hd
  rw [List.getElem?_map] at hd
  obtain ⟨c, hc, rfl⟩ := Option.map_eq_some_iff.mp hd
  have hi : i < n := by
    have := (List.getElem?_eq_some_iff.mp hc).1
    simpa using this
  rw [List.getElem?_range hi] at hc
  cases hc
  exact ⟨hi, fun x H' hy => by obtain ⟨rfl, rfl⟩ := hy; exact ⟨rfl, .int _⟩⟩
theorem i_wD {ma : ME} : ∀ σ H Q, cI K p W (wD ma) σ H Q → iList K (cE K p W ma) σ H Q ∨ (iTup K (cE K p W ma) σ H Q ∨ iStr (cE K p W ma) σ H Q) := fun σ H Q ⟨w, e, s, R, E, h⟩ => by
  unfold wD at h
  cases hr : ma e s with
  | stuck => rw [hr] at h; exact h.elim
  | exc C fs s1 => rw [hr] at h; exact .inl ⟨w, e, s, R, E, by rw [hr]; exact h⟩
  | ok d s1 =>
    rw [hr] at h
    simp only [Pm.R.bind] at h
    split at h
    · refine .inl ⟨w, e, s, R, E, ?_⟩
      rw [hr]; intro w1 H1 v x1 R1 r1
      cases r1 with
      | lst h2 l => exact ⟨_, rfl, ⟨_, SqL.of (hid_some h2).2⟩, Fin.now (Fin.ext h x1) R1 (relI_list (SqL.of h2) l)⟩
    · refine .inl ⟨w, e, s, R, E, ?_⟩
      rw [hr]; intro w1 H1 v x1 R1 r1
      cases r1 with
      | fro h2 l => exact ⟨_, rfl, ⟨_, seqL_same hid_same h2⟩, Fin.now (Fin.ext h x1) R1 (relI_list h2 l)⟩
    · refine .inr (.inl ⟨w, e, s, R, E, ?_⟩)
      rw [hr]; intro w1 H1 v x1 R1 r1
      cases r1 with
      | tup h2 l => exact ⟨_, rfl, ⟨_, seqT_same hid_same h2⟩, Fin.now (Fin.ext h x1) R1 (relI_tup h2 l)⟩
    · refine .inr (.inr ⟨w, e, s, R, E, ?_⟩)
      rw [hr]; intro w1 H1 v x1 R1 r1
      cases r1 with
      | str hz => exact ⟨_, rfl, Fin.now (Fin.ext h x1) R1 (relI_str hz)⟩
    · split at h
      · rename_i hs
        refine .inl ⟨w, e, s, R, E, ?_⟩
        rw [hr]; intro w1 H1 v x1 R1 r1
        cases r1 with
        | cell h2 =>
          obtain ⟨o, h3, h4⟩ := R1.at_ h2 hs
          cases h4 with
          | lst l => exact ⟨_, rfl, ⟨_, SqL.of h3⟩, Fin.now (Fin.ext h x1) R1 (relI_cell h2)⟩
      · exact h.elim
    · exact h.elim
theorem pi_or {X : Cx} {tg e : Expr} {t u : TI} (h : PI X tg e t) (k : PI X tg e u) : PI X tg e (fun σ H R => t σ H R ∨ u σ H R) := ⟨fun pins s σ H Q I q => q.elim (h.run pins s σ H Q I) (k.run pins s σ H Q I)⟩
theorem qi_D {X : Cx} {tg e : Expr} {ma : ME} (h : PE X e (cE X.K p W ma)) : PI X tg e (cI X.K p W (wD ma)) := imI i_wD (pi_or (pi_list h) (pi_or (pi_tup h) (pi_str h)))
theorem i_wRng1 {ms : MA} : ∀ σ H Q, cI K p W (wRng1 ms) σ H Q → iRng1 (cA K p W ms) σ H Q := fun σ H Q ⟨w, e, s, R, E, h⟩ =>
  ⟨w, e, s, R, E, Fin.bind h fun d s1 w1 H1 v x1 R1 r1 h1 => by
    split at h1
    · cases r1 with | cons r1 l =>
      cases l; cases r1
      split at h1
      · exact ⟨_, rfl, by omega, by omega, Fin.now h1 R1 relI_rng⟩
      · exact h1.elim
    · exact h1.elim⟩
theorem i_wRng2 {ms : MA} : ∀ σ H Q, cI K p W (wRng2 ms) σ H Q → iRng2 (cA K p W ms) σ H Q := fun σ H Q ⟨w, e, s, R, E, h⟩ =>
  ⟨w, e, s, R, E, Fin.bind h fun d s1 w1 H1 v x1 R1 r1 h1 => by
    split at h1
    · cases r1 with | cons r1 l =>
      cases l with | cons r2 l =>
      cases l; cases r1; cases r2
      split at h1
      · exact ⟨_, _, rfl, ⟨by omega, by omega, by omega, by omega⟩, Fin.now h1 R1 relI_rng⟩
      · exact h1.elim
    · exact h1.elim⟩
/-! ## statements -/
theorem i_next : ∀ D σ H, cS K p W sNext D σ H → tNext D σ H := fun D σ H ⟨w, e, s, R, E, h⟩ => h w H σ (Ext.refl _ _ _) R E
theorem i_brk : ∀ D σ H, cS K p W sBreak D σ H → tBreak D σ H := fun D σ H ⟨w, e, s, R, E, h⟩ => h w H σ (Ext.refl _ _ _) R E
theorem i_cnt : ∀ D σ H, cS K p W sCont D σ H → tCont D σ H := fun D σ H ⟨w, e, s, R, E, h⟩ => h w H σ (Ext.refl _ _ _) R E
theorem i_retN : ∀ D σ H, cS K p W sRetN D σ H → tRetN D σ H := fun D σ H ⟨w, e, s, R, E, h⟩ => h w H .non (Ext.refl _ _ _) R .non
theorem i_ret {ma : ME} : ∀ D σ H, cS K p W (sRet ma) D σ H → tRet (cE K p W ma) D σ H := fun D σ H ⟨w, e, s, R, E, h⟩ =>
  ⟨w, e, s, R, E, FinS.bind E h fun d s1 w1 H1 v x1 R1 r1 h1 => h1 w1 H1 v (Ext.refl _ _ _) R1 r1⟩
theorem i_drop {ma : ME} : ∀ D σ H, cS K p W (sDrop ma) D σ H → tDrop (cE K p W ma) D σ H := fun D σ H ⟨w, e, s, R, E, h⟩ =>
  ⟨w, e, s, R, E, FinS.bind E h fun d s1 w1 H1 v x1 R1 r1 h1 => h1 w1 H1 σ (Ext.refl _ _ _) R1 (E.ext x1)⟩
theorem i_seq {a b : MS} : ∀ D σ H, cS K p W (sSeq a b) D σ H → tSeq (cS K p W a) (cS K p W b) D σ H := fun D σ H ⟨w, e, s, R, E, h⟩ => by
  refine ⟨w, e, s, R, E, ?_⟩
  unfold sSeq at h
  cases hr : a e s with
  | nx e1 s1 => rw [hr] at h; exact fun w' H' σ' x R' E' => ⟨w', e1, s1, R', E', FinS.ext h x⟩
  | rt v s1 => rw [hr] at h; exact h
  | bk e1 s1 => rw [hr] at h; exact h
  | ct e1 s1 => rw [hr] at h; exact h
  | exc C fs e1 s1 => rw [hr] at h; exact h
  | stuck => rw [hr] at h; exact h
theorem i_ifS {mt : MT} {a b : MS} : ∀ D σ H, cS K p W (sIf mt a b) D σ H → tIfS (cT K p W mt) (cS K p W a) (cS K p W b) D σ H := fun D σ H ⟨w, e, s, R, E, h⟩ =>
  ⟨w, e, s, R, E, FinS.bind E h fun d s1 w1 H1 v x1 R1 r1 h1 => by
    cases r1
    by_cases hc : d = true
    · rw [if_pos hc] at h1 ⊢; exact ⟨w1, e, s1, R1, E.ext x1, h1⟩
    · rw [if_neg hc] at h1 ⊢; exact ⟨w1, e, s1, R1, E.ext x1, h1⟩⟩
theorem i_asg {ma : ME} {g : MG} {ws : List Nat} : ∀ D σ H, cS K p W (sAsg ma g) D σ H → tAsg (cE K p W ma) (cG K p ws g) D σ H := fun D σ H ⟨w, e, s, R, E, h⟩ =>
  ⟨w, e, s, R, E, FinS.bind E h fun d s1 w1 H1 v x1 R1 r1 h1 => by
    split at h1
    · rename_i e1 he
      exact ⟨w1, e, s1, d, e1, R1, E.ext x1, r1, he, fun σ' E' _ => h1 w1 H1 σ' (Ext.refl _ _ _) R1 E'⟩
    · exact h1.elim⟩
theorem i_aug {i : Nat} {ma : ME} {f : O2} {ti : TIp} (hf : p.free i) (sr : SimO2 K ti f) : ∀ D σ H, cS K p W (sAug i ma f) D σ H → tAug i (cE K p W ma) ti D σ H := fun D σ H ⟨w, e, s, R, E, h⟩ => by
  unfold sAug at h
  split at h
  · rename_i d0 hd
    obtain ⟨v0, hv, r0⟩ := E.sl _ _ hd
    exact ⟨v0, hv, w, e, s, R, E, FinS.bind E h fun d s1 w1 H1 v x1 R1 r1 h1 => sr w1 H1 s1 _ _ _ _ _ (WE W σ) R1 (r0.ext x1) r1 (FinS.bind (E.ext x1) h1 fun d2 s2 w2 H2 v2 x2 R2 r2 h2 => h2 w2 H2 _ (Ext.refl _ _ _) R2 (((E.ext x1).ext x2).set r2 hf))⟩
  · exact h.elim
theorem sim_addI : SimO2 K (ipI fun i j => i + j) addI := by
  intro w H s x y d e Q E R hx hy h
  unfold addI at h
  split at h
  · cases hx; cases hy; exact ⟨_, _, rfl, rfl, Fin.now h R (.int _)⟩
  · exact h.elim
theorem sim_subI : SimO2 K (ipI fun i j => i - j) subD := by
  intro w H s x y d e Q E R hx hy h
  unfold subD at h
  split at h
  · cases hx; cases hy; exact ⟨_, _, rfl, rfl, Fin.now h R (.int _)⟩
  · exact h.elim
theorem Rel.updH {w : Wd} {H : Hp} {s : Sto} (R : Rel K w H s) {x : Addr} (hx : x ∈ w.h) (o : HO) : Rel K w (upd H x o) s ∧ Ext [x] w H w (upd H x o) ∧ w.G (upd H x o) = w.G H := by
  have g : w.G (upd H x o) = w.G H := by
    funext b
    unfold Wd.G hid
    split
    · rfl
    · rename_i hb
      exact upd_ne fun z => hb (z ▸ List.mem_append_left _ hx)
  have nr : ∀ b ∈ w.r, b ≠ x := fun b hb z => (List.nodup_append.mp R.nd).2.2 x hx b hb z.symm
  refine ⟨⟨R.nd, fun b hb => ?_, R.len, fun m c hm => ?_⟩, ⟨rfl, ⟨[], by simp⟩, by rw [g]; exact Same.refl _, fun b _ hn => upd_ne fun z => hn (List.mem_singleton.mpr z)⟩, g⟩
  · by_cases q : b = x
    · subst q; rw [upd_same]; exact nofun
    · rw [upd_ne q]; exact R.al b hb
  · obtain ⟨a, u, h1, h2, h3⟩ := R.ce m c hm
    rw [g]
    exact ⟨a, u, h1, by rw [upd_ne (nr a (List.mem_of_getElem? h1))]; exact h2, h3⟩
/-- self.f = v in an __init__ -/
theorem i_me (hc : Hc K) {f : String} {ma : ME} {x dx : Addr} {C : String} (hp : p.f = some (x, dx, C)) (hf : hasF C f = true) : ∀ D σ H, cS K p W (sMe f ma) D σ H → sFld K (tVar 0) (cE K p W ma) (Str.ofString f) D σ H := fun D σ H ⟨w, e, s, R, E, h⟩ =>
  ⟨w, e, s, R, E, FinS.bind E h fun d s1 w1 H1 v x1 R1 r1 h1 => by
    have E1 := E.ext x1
    have m := E1.me
    unfold MeOk at m
    rw [hp] at m
    obtain ⟨m1, m0, m2, m3, m4, gs, m5, m6⟩ := m
    split at h1
    · rename_i hl
      refine ⟨_, m1, x, _, dx, gs, rfl, m5, hc.cls m3, hc.na hf, by rw [m6.len]; omega, ?_⟩
      obtain ⟨R2, e2, g2⟩ := R1.updH m2 (.ins (ga K C) dx (L2.putF (Str.ofString f) v gs))
      refine h1 w1 _ σ (by unfold Px.z; rw [hp]; exact e2) R2 ⟨E1.len, fun i u hu => by rw [g2]; exact E1.sl i u hu, ?_, ?_⟩
      · unfold MeOk
        rw [hp]
        refine ⟨m1, m0, m2, m3, putF_all hf m4, _, upd_same, ?_⟩
        rw [g2]
        exact m6.put r1 f
      · have q := E1.ex
        unfold ExOk at q ⊢
        rw [g2]
        exact q
    · exact h1.elim⟩
/-! ## comprehensions -/
theorem wipe_wipe {σ : L2.St} {vs : List Nat} : L2.wipe (L2.wipe σ vs) vs = L2.wipe σ vs := by
  apply List.ext_getElem?
  intro j
  have hl : ∀ ws : List Nat, (L2.wipe σ ws).length = σ.length := by
    intro ws
    induction ws with
    | nil => rfl
    | cons a ws ih => simp [L2.wipe, ih]
  rw [wipe_at, wipe_at, hl]
  by_cases h : j ∈ vs ∧ j < σ.length
  · simp only [if_pos h]
  · simp only [if_neg h]
theorem bind_cons {α : Type} {r : Pm.R (List Dx)} {y : Dx} {ds : List Dx} {k : List Dx → Sto → Pm.R α} : ((r.bind fun ys s3 => .ok (y :: ys) s3).bind fun ys s3 => k (ds ++ ys) s3) = r.bind fun ys s3 => k ((ds ++ [y]) ++ ys) s3 := by
  cases r <;> simp
theorem i_lc {c : Bool} {mw : MW} {g : MG} {tt : MT} {te : ME} {gs ws : List Nat} (hw : ∀ i ∈ ws, p.free i) (hs : ∀ i ∈ gs, i ∈ ws) : ∀ σ H Q, cE K p W (eLc c mw g tt te ws) σ H Q → tLc (cI K p W mw) (cG K p gs g) (cT K p Wn tt) (cE K p Wn te) ws σ H Q := fun σ H Q ⟨w, e, s, R, E, h⟩ =>
  ⟨w, e, s, R, E, Fin.bind h fun x s1 w1 H1 J x1 R1 r1 h1 D hD => by
    obtain ⟨xs, cc⟩ := x
    split at h1
    · rename_i hl
      have E1 := E.ext x1
      refine ⟨fun i m Hc => m + i = xs.length ∧ ∃ w2 s2 vs ds, ExtH D w1 H1 w2 Hc ∧ Rel K w2 Hc s2 ∧ Hc D = some (.lst vs) ∧ RvL K w2.r (w2.G Hc) vs ds ∧ ds.length ≤ i ∧
        Fin K w1 H1 (Rv K) Q (WE W σ) ((lcL g tt te { e with sl := wipeE e.sl ws } cc xs (xs.drop i) s2).bind fun ys s3 => Pm.newL c (ds ++ ys) s3), ⟨xs.length, by omega, ?_⟩, fun i m Hc ⟨hm, w2, s2, vs, ds, eH, R2, hD2, l2, hi, hF⟩ => ?_⟩
      · obtain ⟨R2, e2⟩ := R1.hide hD (.lst [])
        exact ⟨_, s1, [], [], e2, R2, upd_same, .nil, Nat.le_refl _, h1⟩
      · have Dm : D ∈ w2.h := by rw [eH.h]; exact List.mem_cons_self
        by_cases hlt : i < xs.length
        · have hd : xs.drop i = xs[i] :: xs.drop (i + 1) := List.drop_eq_getElem_cons hlt
          rw [hd] at hF
          unfold lcL at hF
          by_cases st : stands cc xs s2
          · rw [if_pos st] at hF
            obtain ⟨_, hy⟩ := r1 w2 Hc s2 eH.pre eH.s R2 st
            obtain ⟨hgo, hyl⟩ := hy i xs[i] (List.getElem?_eq_getElem hlt)
            refine .inr ⟨hgo, fun H' => (m - 1) + (i + 1) = xs.length ∧ ∃ w2 s2 vs ds, ExtH D w1 H1 w2 H' ∧ Rel K w2 H' s2 ∧ H' D = some (.lst vs) ∧ RvL K w2.r (w2.G H') vs ds ∧ ds.length ≤ i + 1 ∧
              Fin K w1 H1 (Rv K) Q (WE W σ) ((lcL g tt te { e with sl := wipeE e.sl ws } cc xs (xs.drop (i + 1)) s2).bind fun ys s3 => Pm.newL c (ds ++ ys) s3), fun H' hH => ⟨m - 1, by omega, hH⟩, fun v H' hv => ?_⟩
            obtain ⟨rfl, rv⟩ := hyl v H' hv
            cases he : g xs[i] { e with sl := wipeE e.sl ws } s2 with
            | none => rw [he] at hF; exact hF.elim
            | some e1 =>
              rw [he] at hF
              simp only at hF
              have E2 : RelE K p w2 H' { e with sl := wipeE e.sl ws } (L2.wipe σ ws) := (E1.ext' eH.s eH.pre fun a ha => ⟨by rw [eH.h]; exact List.mem_cons_of_mem _ ha, eH.k a ha⟩).wipe ws hw
              refine ⟨w2, _, s2, xs[i], e1, R2, E2, rv, he, fun σ2 Es hw2 => ⟨by rw [hw2 ws hs, wipe_wipe], w2, e1, s2, R2, Es, ?_⟩⟩
              cases ht : tt e1 s2 with
              | stuck => rw [ht] at hF; exact hF.elim
              | exc C fs s3 => rw [ht] at hF; exact hF.elim
              | ok b s3 =>
                rw [ht] at hF
                simp only [Pm.R.calm, Pm.R.bind] at hF
                intro w3 H3 b' x3 R3 hb
                cases hb
                cases b with
                | false =>
                  simp only [Bool.false_eq_true, if_false] at hF ⊢
                  exact ⟨by omega, w3, s3, vs, ds, eH.trans x3 (fun a ha => by cases ha), R3, by rw [x3.k D Dm (by simp)]; exact hD2, l2.ext x3, by omega, hF⟩
                | true =>
                  simp only [if_true] at hF ⊢
                  refine ⟨w3, e1, s3, R3, Es.ext x3, ?_⟩
                  cases hu : te e1 s3 with
                  | stuck => rw [hu] at hF; exact hF.elim
                  | exc C fs s4 => rw [hu] at hF; exact hF.elim
                  | ok y s4 =>
                    rw [hu] at hF
                    simp only [Pm.R.calm, Pm.R.bind] at hF
                    intro w4 H4 v4 x4 R4 r4
                    have e24 : ExtH D w1 H1 w4 H4 := (eH.trans x3 (fun a ha => by cases ha)).trans x4 (fun a ha => by cases ha)
                    have Dm4 : D ∈ w4.h := by rw [e24.h]; exact List.mem_cons_self
                    have hD4 : H4 D = some (.lst vs) := by rw [x4.k D (by rw [x3.h]; exact Dm) (by simp), x3.k D Dm (by simp)]; exact hD2
                    obtain ⟨R5, e5, g5⟩ := R4.updH Dm4 (.lst (vs ++ [v4]))
                    refine ⟨vs, hD4, by rw [l2.len]; exact most_lt (Nat.lt_of_le_of_lt hi (Nat.lt_of_lt_of_le hlt hl)), by omega, w4, s4, vs ++ [v4], ds ++ [y], e24.trans e5 (fun a ha => List.mem_singleton.mp ha), R5, upd_same, ?_, by simp; omega, ?_⟩
                    · rw [g5]
                      exact ((l2.ext x3).ext x4).app (.cons r4 .nil)
                    · rw [← bind_cons]; exact hF
          · rw [if_neg st] at hF; exact hF.elim
        · have hie : i = xs.length := by omega
          have hd : xs.drop i = [] := List.drop_eq_nil_of_le (by omega)
          rw [hd] at hF
          unfold lcL at hF
          by_cases st : stands cc xs s2
          · rw [if_pos st] at hF
            obtain ⟨hst, _⟩ := r1 w2 Hc s2 eH.pre eH.s R2 st
            refine .inl ⟨by rw [hie]; exact hst, ?_⟩
            simp only [Pm.R.bind, List.append_nil] at hF
            cases c with
            | false =>
              obtain ⟨R4, e4, g4, d4⟩ := R2.unhide eH
              exact hF _ _ _ e4 R4 (.lst (d4.trans hD2) (l2.mono g4 (Pre.refl _)))
            | true =>
              obtain ⟨R4, e4⟩ := R2.unhideC eH hD2 (.lst l2)
              refine hF _ _ _ e4 R4 (.cell ?_)
              show (w2.r ++ [D])[s2.length]? = some D
              rw [← R2.len]; simp
          · rw [if_neg st] at hF; exact hF.elim
    · exact h1.elim⟩
/-! ## loops -/
theorem i_for {mw : MW} {g : MG} {b : MS} {gs : List Nat} : ∀ D σ H, cS K p W (sFor mw g b) D σ H → tFor (cI K p W mw) (cG K p gs g) (cS K p W b) D σ H := fun D σ H ⟨w, e, s, R, E, h⟩ =>
  ⟨w, e, s, R, E, FinS.bind E h fun x s1 w1 H1 J x1 R1 r1 h1 => by
    obtain ⟨xs, cc⟩ := x
    refine ⟨fun i m σc Hc => m + i = xs.length ∧ ∃ w2 e2 s2, Ext p.z w1 H1 w2 Hc ∧ Rel K w2 Hc s2 ∧ RelE K p w2 Hc e2 σc ∧ FinS K p w2 Hc D W (forL g b cc xs (xs.drop i) e2 s2), ⟨xs.length, by omega, w1, e, s1, Ext.refl _ _ _, R1, E.ext x1, h1⟩, fun i m σc Hc ⟨hm, w2, e2, s2, eH, R2, E2, hF⟩ => ?_⟩
    by_cases hlt : i < xs.length
    · have hd : xs.drop i = xs[i] :: xs.drop (i + 1) := List.drop_eq_getElem_cons hlt
      rw [hd] at hF
      unfold forL at hF
      by_cases st : stands cc xs s2
      · rw [if_pos st] at hF
        obtain ⟨_, hy⟩ := r1 w2 Hc s2 eH.pre eH.s R2 st
        obtain ⟨hgo, hyl⟩ := hy i xs[i] (List.getElem?_eq_getElem hlt)
        refine .inr ⟨hgo, fun σ' H' => (m - 1) + (i + 1) = xs.length ∧ ∃ w2 e2 s2, Ext p.z w1 H1 w2 H' ∧ Rel K w2 H' s2 ∧ RelE K p w2 H' e2 σ' ∧ FinS K p w2 H' D W (forL g b cc xs (xs.drop (i + 1)) e2 s2), fun σ' H' hH => ⟨m - 1, by omega, hH⟩, fun v H' hv => ?_⟩
        obtain ⟨rfl, rv⟩ := hyl v H' hv
        cases he : g xs[i] e2 s2 with
        | none => rw [he] at hF; exact hF.elim
        | some e3 =>
          rw [he] at hF
          simp only at hF
          refine ⟨w2, e2, s2, xs[i], e3, R2, E2, rv, he, fun σ3 E3 _ => ⟨w2, e3, s2, R2, E3, ?_⟩⟩
          cases hb : b e3 s2 with
          | nx e4 s4 => rw [hb] at hF; exact fun w4 H4 σ4 x4 R4 E4 => ⟨by omega, w4, e4, s4, eH.trans x4, R4, E4, FinS.ext hF x4⟩
          | ct e4 s4 => rw [hb] at hF; exact fun w4 H4 σ4 x4 R4 E4 => ⟨by omega, w4, e4, s4, eH.trans x4, R4, E4, FinS.ext hF x4⟩
          | bk e4 s4 => rw [hb] at hF; exact hF
          | rt v4 s4 => rw [hb] at hF; exact hF
          | exc C fs e4 s4 => rw [hb] at hF; exact hF
          | stuck => rw [hb] at hF; exact hF
      · rw [if_neg st] at hF; exact hF.elim
    · have hie : i = xs.length := by omega
      have hd : xs.drop i = [] := List.drop_eq_nil_of_le (by omega)
      rw [hd] at hF
      unfold forL at hF
      by_cases st : stands cc xs s2
      · rw [if_pos st] at hF
        obtain ⟨hst, _⟩ := r1 w2 Hc s2 eH.pre eH.s R2 st
        exact .inl ⟨by rw [hie]; exact hst, hF w2 Hc σc (Ext.refl _ _ _) R2 E2⟩
      · rw [if_neg st] at hF; exact hF.elim⟩
theorem i_while {n : Nat} {mt : MT} {b : MS} : ∀ D σ H, cS K p W (sWhile n mt b) D σ H → tWhile (cT K p W mt) (cS K p W b) D σ H := fun D σ H ⟨w, e, s, R, E, h⟩ => by
  refine ⟨fun m σc Hc => ∃ w2 e2 s2, Rel K w2 Hc s2 ∧ RelE K p w2 Hc e2 σc ∧ FinS K p w2 Hc D W (whileL mt b m e2 s2), ⟨n, w, e, s, R, E, h⟩, fun m σc Hc ⟨w2, e2, s2, R2, E2, hF⟩ => ?_⟩
  cases m with
  | zero => exact hF.elim
  | succ m =>
    unfold whileL at hF
    refine ⟨w2, e2, s2, R2, E2, FinS.bind E2 hF fun d s3 w3 H3 v x3 R3 r3 h3 => ?_⟩
    cases r3
    by_cases hc : d = true
    · rw [if_pos hc] at h3 ⊢
      refine ⟨fun σ' H' => ∃ w2 e2 s2, Rel K w2 H' s2 ∧ RelE K p w2 H' e2 σ' ∧ FinS K p w2 H' D W (whileL mt b m e2 s2), fun σ' H' hH => ⟨m, Nat.lt_succ_self m, hH⟩, w3, e2, s3, R3, E2.ext x3, ?_⟩
      cases hb : b e2 s3 with
      | nx e4 s4 => rw [hb] at h3; exact fun w4 H4 σ4 x4 R4 E4 => ⟨w4, e4, s4, R4, E4, FinS.ext h3 x4⟩
      | ct e4 s4 => rw [hb] at h3; exact fun w4 H4 σ4 x4 R4 E4 => ⟨w4, e4, s4, R4, E4, FinS.ext h3 x4⟩
      | bk e4 s4 => rw [hb] at h3; exact h3
      | rt v4 s4 => rw [hb] at h3; exact h3
      | exc C fs e4 s4 => rw [hb] at h3; exact h3
      | stuck => rw [hb] at h3; exact h3
    · rw [if_neg hc] at h3 ⊢
      exact h3 w3 H3 σc (Ext.refl _ _ _) R3 (E2.ext x3)
/-! ## the store's changes -/
theorem i_put {mo mi ma : ME} : ∀ D σ H, cS K p W (sPut mo mi ma) D σ H → tAsg (cE K p W ma) (gSub (cE K p W mo) (cE K p W mi) rSetL) D σ H := fun D σ H ⟨w, e, s, R, E, h⟩ =>
  ⟨w, e, s, R, E, FinS.bind E h fun d s1 w1 H1 v x1 R1 r1 h1 => ⟨w1, e, s1, R1, E.ext x1, FinS.bind (E.ext x1) h1 fun d2 s2 w2 H2 v2 x2 R2 r2 h2 => ⟨w2, e, s2, R2, (E.ext x1).ext x2, FinS.bind ((E.ext x1).ext x2) h2 fun d3 s3 w3 H3 v3 x3 R3 r3 h3 => by
    split at h3
    · rename_i n k
      cases r3
      have r2 := r2.ext x3
      cases r2 with
      | cell hr =>
        split at h3
        · rename_i xs hs
          split at h3
          · rename_i hk
            obtain ⟨o, h4, h5⟩ := R3.at_ hr hs
            cases h5 with
            | lst l =>
              rename_i vs
              obtain ⟨R5, e5⟩ := R3.put hr (Rc.lst (l.set ((r1.ext x2).ext x3) k.toNat))
              refine ⟨_, vs, k, k.toNat, rfl, rfl, h4, ?_, h3 w3 _ σ e5.weak R5 ((((E.ext x1).ext x2).ext x3).ext e5)⟩
              unfold ixN
              rw [if_pos hk.1, if_pos (by rw [l.len]; omega)]
          · exact h3.elim
        · exact h3.elim
    · exact h3.elim⟩⟩⟩
end
end Ps

/-! # soundness: exceptions, changes, texts, calls, defs -/
namespace Ps
open PySem PySem.Spec PyProof.Rows L2 Vs He Pm
def xcB (K : PySem.W.Frag) : Bool := excT.all fun e => excB K (ga K e.1) && (decide (PySem.W.kitOne K (.ref (ga K e.1)) (.type "ValueError") = some true) &&
  ((excT.all fun x => decide (PySem.W.kitOne K (.ref (ga K e.1)) (.ref (ga K x.1)) = some (e.2.1.contains x.1)) && decide (PySem.W.exmOne K (.ref (ga K e.1)) (.ref (ga K x.1)) = some (e.2.1.contains x.1))) &&
  ((e.2.2.all fun f => decide (PySem.W.findIn K (.ref (ga K e.1)) f = some none)) && (e.2.2.isEmpty || oexB K (ga K e.1) (ma K (ga K e.1) "__init__")))))
def Xc (K : PySem.W.Frag) : Prop := xcB K = true
structure XcE (K : PySem.W.Frag) (C : String) (ss fs : List String) : Prop where
  exc : ExcC K (ga K C)
  ve : PySem.W.kitOne K (.ref (ga K C)) (.type "ValueError") = some true
  sub : ∀ x ∈ excT, PySem.W.kitOne K (.ref (ga K C)) (.ref (ga K x.1)) = some (ss.contains x.1) ∧ PySem.W.exmOne K (.ref (ga K C)) (.ref (ga K x.1)) = some (ss.contains x.1)
  na : ∀ f ∈ fs, PySem.W.findIn K (.ref (ga K C)) (Str.ofString f) = some none
  oex : fs.isEmpty = false → OexD K (ga K C) (ma K (ga K C) "__init__")
theorem Xc.e {K : PySem.W.Frag} (h : Xc K) {C : String} {z : List String × List String} (m : excT.lookup C = some z) : XcE K C z.1 z.2 := by
  have h := List.all_eq_true.mp h _ (lookup_mem m)
  obtain ⟨h1, h⟩ := b2 h
  obtain ⟨h2, h⟩ := b2 h
  obtain ⟨h3, h⟩ := b2 h
  obtain ⟨h4, h5⟩ := b2 h
  refine ⟨excB_ok h1, of_decide_eq_true h2, fun x hx => ?_, fun f hf => of_decide_eq_true (List.all_eq_true.mp h4 f hf), fun ze => by
    have h5 : (z.2.isEmpty || oexB K (ga K C) (ma K (ga K C) "__init__")) = true := h5
    rw [ze, Bool.false_or] at h5
    exact oexB_ok h5⟩
  obtain ⟨a1, a2⟩ := b2 (List.all_eq_true.mp h3 x hx)
  exact ⟨of_decide_eq_true a1, of_decide_eq_true a2⟩
theorem Xc.exc {K : PySem.W.Frag} (h : Xc K) {C : String} (m : inX C = true) : ExcC K (ga K C) := let ⟨_, e⟩ := Option.isSome_iff_exists.mp m; (h.e e).exc
theorem Xc.ve {K : PySem.W.Frag} (h : Xc K) {C : String} (m : inX C = true) : PySem.W.kitOne K (.ref (ga K C)) (.type "ValueError") = some true := let ⟨_, e⟩ := Option.isSome_iff_exists.mp m; (h.e e).ve
theorem Xc.sub {K : PySem.W.Frag} (h : Xc K) {C X : String} (m : inX C = true) (n : inX X = true) : PySem.W.kitOne K (.ref (ga K C)) (.ref (ga K X)) = some (isSubX C X) ∧ PySem.W.exmOne K (.ref (ga K C)) (.ref (ga K X)) = some (isSubX C X) := by
  obtain ⟨z, e⟩ := Option.isSome_iff_exists.mp m
  obtain ⟨x, e2⟩ := Option.isSome_iff_exists.mp n
  unfold isSubX
  rw [e]
  exact (h.e e).sub (X, x) (lookup_mem e2)
def hasXF (C f : String) : Bool := match excT.lookup C with
  | some z => z.2.contains f
  | none => false
theorem Xc.na {K : PySem.W.Frag} (h : Xc K) {C f : String} (m : hasXF C f = true) : PySem.W.findIn K (.ref (ga K C)) (Str.ofString f) = some none := by
  unfold hasXF at m
  cases e : excT.lookup C with
  | none => rw [e] at m; cases m
  | some z =>
    rw [e] at m
    exact (h.e e).na f (List.contains_iff_mem.mp m)
theorem Xc.oex {K : PySem.W.Frag} (h : Xc K) {C f : String} (m : hasXF C f = true) : OexD K (ga K C) (ma K (ga K C) "__init__") := by
  unfold hasXF at m
  cases e : excT.lookup C with
  | none => rw [e] at m; cases m
  | some z =>
    rw [e] at m
    refine (h.e e).oex ?_
    have m := List.contains_iff_mem.mp m
    cases hz : z.2 with
    | nil => rw [hz] at m; cases m
    | cons a l => rfl
theorem Xc.xf {K : PySem.W.Frag} (h : Xc K) {C : String} (m : inX C = true) : XfC K (ga K C) := let e := h.exc m; ⟨e.hg, e.hk, e.hs, e.hd⟩
theorem hasXF_in {C f : String} (m : hasXF C f = true) : inX C = true := by
  unfold hasXF at m
  unfold inX
  cases e : excT.lookup C with
  | none => rw [e] at m; cases m
  | some z => rfl
section
variable {K : PySem.W.Frag} {p : Px} {W : WX}
/-! ## try, raise -/
theorem i_try (hx : Xc K) {X : String} {i : Nat} {mb ms : MS} (m : inX X = true) (hp : p.x = none) (hf : p.free i) : ∀ D σ H, cS K p W (sTry mb X i ms) D σ H →
    tTryAs K (.ref (ga K X)) i (fun W' => cS K p W' mb) (fun a cls d => cS K ⟨some (a, cls, d), i, p.f⟩ Wn ms) W D σ H := fun D σ H ⟨w, e, s, R, E, h⟩ => by
  refine ⟨w, e, s, R, E, ?_⟩
  unfold sTry at h
  have he : ∀ {w1 : Wd} {H1 : Hp} {e1 : En} {σ1 : L2.St}, RelE K p w1 H1 e1 σ1 → e1.ex = none := fun E1 => by
    have q := E1.ex
    unfold ExOk at q
    rw [hp] at q
    exact q
  cases hr : mb e s with
  | nx e1 s1 => rw [hr] at h; exact h
  | rt v s1 => rw [hr] at h; exact h
  | bk e1 s1 => rw [hr] at h; exact h
  | ct e1 s1 => rw [hr] at h; exact h
  | stuck => rw [hr] at h; exact h
  | exc C fs e1 s1 =>
    rw [hr] at h
    simp only at h
    intro w1 H1 σ1 dx x1 R1 E1 hC rx
    refine ⟨isSubX C X, (hx.sub hC m).2, fun hs a ha => ?_, fun hs => ?_⟩
    · rw [if_pos hs] at h
      by_cases hl : i < e1.sl.length
      · rw [if_pos hl] at h
        have hsl : i < σ1.length := by rw [← E1.len]; exact hl
        refine ⟨w1, ⟨e1.sl.set i none, e1.me, some (C, fs)⟩, s1, R1, ⟨by simp [E1.len], fun j d hd => ?_, ?_, ?_⟩, ?_⟩
        · have hd : (e1.sl.set i none)[j]? = some (some d) := hd
          by_cases q : i = j
          · subst q
            rw [List.getElem?_set_self hl] at hd
            cases hd
          · rw [List.getElem?_set_ne q] at hd ⊢
            exact E1.sl j d hd
        · have q := E1.me
          unfold MeOk at q ⊢
          show match p.f with | none => _ | some (x, dx, C) => _
          cases hpf : p.f with
          | none => trivial
          | some z =>
            obtain ⟨x, dx, C⟩ := z
            rw [hpf] at q
            have hi : i ≠ 0 := hf.1.elim (fun z => by rw [z] at hpf; cases hpf) id
            simp only at q ⊢
            rw [List.getElem?_set_ne hi, List.getElem?_set_ne hi]
            exact q
        · show (σ1.set i (some (.ref a)))[i]? = some (some (.ref a)) ∧ _
          exact ⟨List.getElem?_set_self hsl, C, fs, rfl, rfl, hC, rx⟩
        · have key : ∀ {w2 : Wd} {H2 : Hp} {e2 : En} {σ2 : L2.St}, RelE K ⟨some (a, .ref (ga K C), dx), i, p.f⟩ w2 H2 e2 σ2 → RelE K p w2 H2 ⟨e2.sl.set i none, e2.me, none⟩ (σ2.set i none) := fun {w2 H2 e2 σ2} E2 => by
            refine ⟨by simp [E2.len], fun j d hd => ?_, ?_, ?_⟩
            · have hd : (e2.sl.set i none)[j]? = some (some d) := hd
              by_cases q : i = j
              · subst q
                by_cases hl2 : i < e2.sl.length
                · rw [List.getElem?_set_self hl2] at hd
                  cases hd
                · rw [List.getElem?_eq_none (by simp; omega)] at hd
                  cases hd
              · rw [List.getElem?_set_ne q] at hd ⊢
                exact E2.sl j d hd
            · have q := E2.me
              unfold MeOk at q ⊢
              simp only at q
              cases hpf : p.f with
              | none => trivial
              | some z =>
                obtain ⟨x, dx, C⟩ := z
                rw [hpf] at q
                have hi : i ≠ 0 := hf.1.elim (fun z => by rw [z] at hpf; cases hpf) id
                simp only at q ⊢
                rw [List.getElem?_set_ne hi, List.getElem?_set_ne hi]
                exact q
            · unfold ExOk
              rw [hp]
          have hz : (⟨some (a, .ref (ga K C), dx), i, p.f⟩ : Px).z = p.z := rfl
          cases hm : ms ⟨e1.sl.set i none, e1.me, some (C, fs)⟩ s1 with
          | nx e2 s2 => rw [hm] at h; exact fun w2 H2 σ2 x2 R2 E2 => h w2 H2 _ (x1.trans x2) R2 (key E2)
          | bk e2 s2 => rw [hm] at h; exact fun w2 H2 σ2 x2 R2 E2 => h w2 H2 _ (x1.trans x2) R2 (key E2)
          | ct e2 s2 => rw [hm] at h; exact fun w2 H2 σ2 x2 R2 E2 => h w2 H2 _ (x1.trans x2) R2 (key E2)
          | rt v s2 => rw [hm] at h; exact fun w2 H2 v2 x2 R2 r2 => h w2 H2 v2 (x1.trans x2) R2 r2
          | exc C' fs' e2 s2 => rw [hm] at h; exact h.elim
          | stuck => rw [hm] at h; exact h.elim
      · rw [if_neg hl] at h; exact h.elim
    · rw [if_neg (by rw [hs]; exact nofun)] at h
      exact h w1 H1 σ1 dx x1 R1 E1 hC rx
theorem i_raise {C : String} (m : inX C = true) : ∀ D σ H, cS K p W (sRaise C) D σ H → W (.ref (ga K C)) none σ H := fun D σ H ⟨w, e, s, R, E, h⟩ => h w H σ none (Ext.refl _ _ _) R E m .no
/-- an exception's own __init__ sets one field -/
def spX (K : PySem.W.Frag) (C f : String) (j n : Nat) : Sp := fun vs H Q _ => vs.length = n ∧ ∃ (a : Addr) (us : List V) (r : V), vs = .ref a :: us ∧ vs[j]? = some r ∧ H a = some (exo a (ga K C) none) ∧ ∀ d, H d = none → d ≠ a → Q .non (upd (upd H d (exd d [(Str.ofString f, r)])) a (exo a (ga K C) (some d)))
theorem i_raiseO {C f : String} {j n : Nat} {dv : List Dx} {us : List V} {ms : MA} (m : inX C = true) (k : RvC K us dv) : ∀ D σ H, cS K p W (sRaiseO C f j n dv ms) D σ H → tMkO (ga K C) (spX K C f j n) us (cA K p W ms) σ H fun cls d H' => W cls d σ H' := fun D σ H ⟨w, e, s, R, E, h⟩ =>
  ⟨w, e, s, R, E, FinS.bind E h fun ds s1 w1 H1 vs x1 R1 r1 h1 => by
    split at h1
    · rename_i hl
      split at h1
      · rename_i d hd
        split at h1
        · rename_i hj
          refine ⟨by rw [r1.len]; exact hl.1, fun a ha => ?_⟩
          have l2 : RvL K w1.r (w1.G H1) (vs ++ us) (ds ++ dv) := r1.app (k _ _)
          obtain ⟨j, rfl⟩ : ∃ i, j = i + 1 := ⟨j - 1, by omega⟩
          rw [List.getElem?_cons_succ] at hd
          obtain ⟨r, hr, rr⟩ := l2.at_ hd
          refine ⟨by rw [List.length_cons, l2.len]; exact hl.2, a, vs ++ us, r, rfl, by rw [List.getElem?_cons_succ]; exact hr, upd_same, fun b hb ne => ?_⟩
          have hb1 : H1 b = none := by rw [upd_ne ne] at hb; exact hb
          refine ⟨rfl, b, _, upd_same, by rw [upd_ne ne, upd_same], hb1, ?_⟩
          have eH : upd (L2.del (upd (upd (upd H1 a (exo a (ga K C) none)) b (exd b [(Str.ofString f, r)])) a (exo a (ga K C) (some b))) a) b (.xd [(Str.ofString f, r)]) = upd H1 b (.xd [(Str.ofString f, r)]) := by
            funext c
            by_cases q : c = b
            · subst q; rw [upd_same, upd_same]
            · rw [upd_ne q, upd_ne q]
              unfold L2.del
              by_cases q2 : c = a
              · rw [if_pos q2, q2, ha]
              · rw [if_neg q2, upd_ne q2, upd_ne q, upd_ne q2]
          rw [eH]
          obtain ⟨R2, e2, g2⟩ := R1.new hb1 (.xd [(Str.ofString f, r)])
          exact h1 w1 _ σ (some b) e2.weak R2 ((E.ext x1).ext e2) m (.own g2 (.cons (rr.ext e2) .nil))
        · exact h1.elim
      · exact h1.elim
    · exact h1.elim⟩
theorem run_X {C f : String} {i j n : Nat} {N : List Str} {vs : List V} {H : Hp} {Q : VK} {E : XK} {bk ct : L2.St → Hp → Prop} (o : OexC K (ga K C)) (na : PySem.W.findIn K (.ref (ga K C)) (Str.ofString f) = some none) (hi : i < n) (h : spX K C f j n vs H Q E) :
    tSeq (tDrop (tVeI K (tCons (tVar 0) (tCons (tVar i) tNil)))) (tOst K (Str.ofString f) (tVar 0) (tVar j)) (Ends.mk (fun _ H' => Q .non H') Q bk ct) (L2.start N vs) H := by
  obtain ⟨hn, a, us, r, rfl, hj, ha, q⟩ := h
  have hs : ∀ (k : Nat) (v : V), (V.ref a :: us)[k]? = some v → (L2.start N (V.ref a :: us))[k]? = some (some v) := fun k v hv => by
    unfold L2.start
    have hk : k < (List.map some (V.ref a :: us)).length := by
      have := (List.getElem?_eq_some_iff.mp hv).1
      simpa using this
    rw [List.getElem?_append_left hk, List.getElem?_map, hv]
    rfl
  obtain ⟨v, hv⟩ : ∃ v, (V.ref a :: us)[i]? = some v := ⟨_, List.getElem?_eq_getElem (by rw [hn]; exact hi)⟩
  refine ⟨_, hs 0 _ rfl, v, hs i v hv, a, _, [v], rfl, by show 1 ≤ 1000; omega, o, ha, ?_⟩
  exact ⟨r, hs j r hj, _, hs 0 _ rfl, a, _, rfl, o, na, .inl ⟨ha, q⟩⟩
/-! ## what a suite holds -/
theorem XDok_of {r : List Addr} {G H : Hp} {d : Option Addr} {fs : Fs} (s : Same G H) (h : Rx K r G d fs) : XDok H d := by
  cases h with
  | no => exact .inl rfl
  | own k l => exact .inr ⟨_, _, rfl, s _ _ k⟩
theorem isX_ok (hx : Xc K) {C : String} (m : inX C = true) {r : List Addr} {G : Hp} {c : V} {d : Dx} (h : Rv K r G c d) {b : Bool} (q : isX C d = some b) : ∃ u, ClsV c u ∧ PySem.W.kitOne K (.ref (ga K C)) u = some b := by
  unfold isX at q
  split at q
  · cases h
    split at q
    · rename_i hX
      cases q
      exact ⟨_, .own _, (hx.sub m hX).1⟩
    · cases q
  · cases h
    split at q
    · rename_i hb
      cases q
      subst hb
      exact ⟨_, .ty _, hx.ve m⟩
    · cases q
  · cases q
theorem isXs_ok (hx : Xc K) {C : String} (m : inX C = true) {r : List Addr} {G : Hp} : ∀ {cs : List V} {ds : List Dx}, RvL K r G cs ds → ∀ {b : Bool}, isXs C ds = some b → ∃ us, Paired ClsV cs us ∧ PySem.W.kitAny K (.ref (ga K C)) us = some b
  | _, _, .nil, b, q => by cases q; exact ⟨[], .nil, rfl⟩
  | _, _, .cons k l, b, q => by
    simp only [isXs] at q
    split at q
    · rename_i a2 b2 q1 q2
      cases q
      obtain ⟨u, h1, h2⟩ := isX_ok hx m k q1
      obtain ⟨us, h3, h4⟩ := isXs_ok hx m l q2
      refine ⟨u :: us, .cons h1 h3, ?_⟩
      simp only [PySem.W.kitAny]
      rw [h2]
      cases a2 with
      | true => rfl
      | false => exact h4
    · cases q
theorem i_isE (hx : Xc K) {a : Addr} {cls : Value} {d : Option Addr} {i : Nat} {f : Option (Addr × Addr × String)} {mc : ME} : ∀ σ H Q, cE K ⟨some (a, cls, d), i, f⟩ W (eIsE mc) σ H Q → tCB (rIsY K cls d a) (tCons (tVar i) (tCons (cE K ⟨some (a, cls, d), i, f⟩ W mc) tNil)) σ H Q := fun σ H Q ⟨w, e, s, R, E, h⟩ => by
  obtain ⟨q1, C, fs, q2, rfl, q4, q5⟩ := E.ex
  refine ⟨_, q1, w, e, s, R, E, Fin.bind h fun c s1 w1 H1 v x1 R1 r1 h1 => ?_⟩
  rw [q2] at h1
  simp only at h1
  split at h1
  · rename_i b hb
    obtain ⟨u, h2, h3⟩ := isX_ok hx q4 r1 hb
    exact ⟨v, u, _, b, rfl, rfl, XDok_of hid_same (q5.mono x1.s x1.pre), hx.exc q4, h2, h3, Fin.now h1 R1 (.bl b)⟩
  · exact h1.elim
theorem i_isET (hx : Xc K) {a : Addr} {cls : Value} {d : Option Addr} {i : Nat} {f : Option (Addr × Addr × String)} {mc : MA} : ∀ σ H Q, cE K ⟨some (a, cls, d), i, f⟩ W (eIsET mc) σ H Q → tCB (rIsYT K cls d a) (tCons (tVar i) (tCons (tTup (cA K ⟨some (a, cls, d), i, f⟩ W mc)) tNil)) σ H Q := fun σ H Q ⟨w, e, s, R, E, h⟩ => by
  obtain ⟨q1, C, fs, q2, rfl, q4, q5⟩ := E.ex
  refine ⟨_, q1, w, e, s, R, E, Fin.bind h fun c s1 w1 H1 v x1 R1 r1 h1 => ?_⟩
  rw [q2] at h1
  simp only at h1
  split at h1
  · rename_i hl
    split at h1
    · rename_i b hb
      refine ⟨by rw [r1.len]; exact most_le hl, fun tp n => ?_⟩
      obtain ⟨us, h2, h3⟩ := isXs_ok hx q4 r1 hb
      obtain ⟨R2, e2, g2⟩ := R1.new n (.tup v)
      exact ⟨tp, v, us, _, b, rfl, upd_same, rfl, XDok_of hid_same (q5.mono (Same.trans x1.s e2.s) (Pre.trans x1.pre e2.pre)), hx.exc q4, h2, h3, h1 w1 _ _ e2 R2 (.bl b)⟩
    · exact h1.elim
  · exact h1.elim
def altX (a : Addr) (cls : Value) (d : Option Addr) (K : PySem.W.Frag) (f : String) (te : TE) : List String → TE
  | [] => fun _ _ _ => False
  | C :: r => tAlt (tXf a cls d (ga K C) (Str.ofString f) te) (altX a cls d K f te r)
theorem altX_in {a : Addr} {cls : Value} {d : Option Addr} {f : String} {te : TE} {σ : L2.St} {H : Hp} {Q : VK} {C : String} : ∀ {l : List String}, C ∈ l → tXf a cls d (ga K C) (Str.ofString f) te σ H Q → altX a cls d K f te l σ H Q
  | D :: l, h, q => by
    rcases List.mem_cons.mp h with rfl | h
    · exact .inl q
    · exact .inr (altX_in h q)
theorem i_fldE {a : Addr} {cls : Value} {d : Option Addr} {i : Nat} {g : Option (Addr × Addr × String)} {L : List String} {f : String} : ∀ σ H Q, cE K ⟨some (a, cls, d), i, g⟩ W (eFldE L f) σ H Q → altX a cls d K f (tVar i) L σ H Q := fun σ H Q ⟨w, e, s, R, E, h⟩ => by
  obtain ⟨q1, C, fs, q2, rfl, q4, q5⟩ := E.ex
  unfold eFldE at h
  rw [q2] at h
  simp only at h
  split at h
  · rename_i hL
    split at h
    · rename_i u hu
      refine altX_in (List.contains_iff_mem.mp hL) ⟨_, q1, rfl, rfl, ?_⟩
      cases q5 with
      | no => cases hu
      | own k l =>
        obtain ⟨v, h1, h2⟩ := l.look hu
        exact ⟨_, _, v, rfl, (hid_some k).2, h1, Fin.now h R h2⟩
    · exact h.elim
  · exact h.elim
theorem pe_altX {X : Cx} (hx : Xc X.K) {a : Addr} {oe : Obj} {cls : Value} {d : Option Addr} {pn : List (Addr × Obj)} {e : Expr} {te : TE} {pos : Pos} {n : String} (hz : Zc cls d oe) (hf : ∃ vs, oe.data = .fields vs) (he : PE (X.suite a ((a, oe) :: pn)) e te)
    (hb : attributeBase e n X.env (eval e X.env) = eval e X.env) : ∀ L : List String, (L.all fun C => hasXF C n) = true → PE (X.suite a ((a, oe) :: pn)) (.Attribute e n pos) (altX a cls d X.K n te L)
  | [], _ => ⟨fun _ _ _ _ _ _ q => q.elim⟩
  | C :: L, h => by
    simp only [List.all_cons, Bool.and_eq_true] at h
    exact pe_alt (pe_xf (hx.xf (hasXF_in h.1)) (hx.na h.1) hz hf he hb) (pe_altX hx hz hf he hb L h.2)
/-! ## changes -/
theorem i_set (hc : Hc K) {f : String} {mo ma : ME} : ∀ D σ H, cS K p W (sSet f mo ma) D σ H → sFld K (cE K p W mo) (cE K p W ma) (Str.ofString f) D σ H := fun D σ H ⟨w, e, s, R, E, h⟩ =>
  ⟨w, e, s, R, E, FinS.bind E h fun d s1 w1 H1 v x1 R1 r1 h1 => ⟨w1, e, s1, R1, E.ext x1, FinS.bind (E.ext x1) h1 fun d2 s2 w2 H2 v2 x2 R2 r2 h2 => by
    split at h2
    · cases r2 with
      | cell hr =>
        split at h2
        · rename_i hs
          split at h2
          · rename_i hk
            obtain ⟨o, h4, h5⟩ := R2.at_ hr hs
            cases h5 with
            | obj m g l =>
              rename_i dx gs
              obtain ⟨R3, e3⟩ := R2.put hr (Rc.obj (dx := dx) m (putF_all hk.1 g) (l.put (r1.ext x2) f))
              exact ⟨_, _, dx, gs, rfl, h4, hc.cls m, hc.na hk.1, by rw [l.len]; omega, h2 w2 _ σ e3.weak R3 (((E.ext x1).ext x2).ext e3)⟩
          · exact h2.elim
        · exact h2.elim
    · exact h2.elim⟩⟩
theorem i_app {mo ma : ME} : ∀ σ H Q, cE K p W (eApp mo ma) σ H Q → tBM K "list" rAppend (cE K p W mo) (tCons (cE K p W ma) tNil) σ H Q := fun σ H Q ⟨w, e, s, R, E, h⟩ =>
  ⟨w, e, s, R, E, Fin.bind h fun x s1 w1 H1 v x1 R1 r1 h1 => by
    split at h1
    · rename_i n
      split at h1
      · rename_i xs hs
        cases r1 with
        | cell hn =>
          rename_i a
          obtain ⟨o, ho, hc⟩ := R1.at_ hn hs
          cases hc with
          | lst l =>
            refine ⟨.inl ⟨rfl, _, SqL.of ho⟩, w1, e, s1, R1, E.ext x1, Fin.bind h1 fun d2 s2 w2 H2 v2 x2 R2 r2 h2 => ?_⟩
            split at h2
            · rename_i ys hs2
              obtain ⟨o2, ho2, hc2⟩ := R2.at_ (x2.pre _ _ hn) hs2
              cases hc2 with
              | lst l2 =>
                split at h2
                · rename_i hl
                  obtain ⟨R3, e3⟩ := R2.put (x2.pre _ _ hn) (Rc.lst (l2.app (.cons r2 .nil)))
                  exact ⟨a, _, v2, rfl, rfl, ho2, by rw [l2.len]; exact most_lt hl, h2 w2 _ _ e3 R3 .non⟩
                · exact h2.elim
            · exact h2.elim
      · exact h1.elim
    · exact h1.elim⟩
/-! ## texts -/
theorem joinT_eq (z : Tx) : ∀ ys : List Tx, Txt.join (tS z) (ys.map tS) = tS (joinT z ys)
  | [] => rfl
  | y :: ys => by
    have e := join_l (sep := tS z) (y := tS y) (ys := ys.map tS)
    have e2 : (Txt.join (tS z) (tS y :: ys.map tS)).cps.toList = joinT z (y :: ys) := by
      rw [e]
      unfold joinT
      rw [tS_l, tS_l, List.map_map]
      congr 2
    rw [List.map_cons]
    unfold tS at e2 ⊢
    rw [← e2]
theorem okT_join {z : Tx} (hz : okT z) : ∀ {ys : List Tx}, (∀ y ∈ ys, okT y) → okT (joinT z ys)
  | [], _ => fun c hc => by cases hc
  | y :: ys, h => by
    refine okT_app (h y List.mem_cons_self) fun c hc => ?_
    rw [List.mem_flatten] at hc
    obtain ⟨l, hl, hc⟩ := hc
    obtain ⟨q, hq, rfl⟩ := List.mem_map.mp hl
    exact okT_app hz (h q (List.mem_cons_of_mem _ hq)) c hc
theorem i_join {ma mb : ME} : ∀ σ H Q, cE K p W (eJoin ma mb) σ H Q → tM1 (rJoin K) (cE K p W ma) (cE K p W mb) σ H Q := fun σ H Q ⟨w, e, s, R, E, h⟩ =>
  ⟨w, e, s, R, E, Fin.bind h fun x s1 w1 H1 v x1 R1 r1 h1 => by
    split at h1
    · cases r1 with
      | str hz =>
      refine ⟨⟨_, rfl⟩, w1, e, s1, R1, E.ext x1, Fin.bind h1 fun d2 s2 w2 H2 v2 x2 R2 r2 h2 => ?_⟩
      split at h2
      · rename_i l hq
        obtain ⟨ys, h3, h4⟩ := Option.bind_eq_some_iff.mp hq
        obtain ⟨a, vs, rfl, h5, l2⟩ := r2.asQ R2 h3
        obtain ⟨h6, h7⟩ := l2.strsE h4
        subst h6
        split at h2
        · rename_i hl
          refine ⟨_, a, l.map tS, rfl, rfl, h5, ?_, ?_⟩
          · rw [List.map_map, List.length_map, tS_len]
            have : (l.map ((fun x => x.length) ∘ tS)) = l.map (·.length) := List.map_congr_left fun q _ => tS_len q
            rw [this]
            exact Nat.le_trans hl (by decide)
          · rw [joinT_eq]; exact Fin.now h2 R2 (.str (okT_join hz h7))
        · exact h2.elim
      · exact h2.elim
    · exact h1.elim⟩
theorem i_lenSet {ma : ME} : ∀ σ H Q, cE K p W (eCall lenSetD (aCons ma aNil)) σ H Q → tLenSetG K (cE K p W ma) σ H Q := fun σ H Q ⟨w, e, s, R, E, h⟩ =>
  ⟨w, e, s, R, E, Fin.bind (β' := Dx) (rel' := Rv K) (k := fun x s1 => lenSetD [x] s1) (by
    have e2 : eCall lenSetD (aCons ma aNil) e s = (ma e s).bind fun x s1 => lenSetD [x] s1 := by
      unfold eCall aCons aNil
      cases ma e s <;> rfl
    rw [e2] at h; exact h) fun x s1 w1 H1 v x1 R1 r1 h1 => by
    unfold lenSetD at h1
    simp only at h1
    cases hq : (Pm.asL s1 x).bind Pm.dStrs with
    | none => rw [hq] at h1; exact h1.elim
    | some l =>
      rw [hq] at h1
      simp only at h1
      obtain ⟨ys, h3, h4⟩ := Option.bind_eq_some_iff.mp hq
      obtain ⟨a, vs, rfl, h5, l2⟩ := r1.asL R1 h3
      obtain ⟨h6, h7⟩ := l2.strsE h4
      subst h6
      split at h1
      · rename_i hl
        refine ⟨a, l.map tS, rfl, h5, by rw [List.length_map]; exact hl, ?_⟩
        rw [cnt_dcnt, List.length_map]
        exact Fin.now h1 R1 (.int _)
      · exact h1.elim⟩
/-! ## defs -/
abbrev p0 : Px := ⟨none, 0, none⟩
theorem env_start {w : Wd} {H : Hp} {vs : List V} {ds : List Dx} {N : List Str} {n : Nat} (hN : N.length = n) (l : RvL K w.r (w.G H) vs ds) : RelE K p0 w H ⟨env0 n ds, [], none⟩ (L2.start N vs) := by
  refine ⟨?_, fun i d hd => ?_, trivial, rfl⟩
  · show (ds.map some ++ List.replicate (n - ds.length) none).length = (vs.map some ++ List.replicate (N.length - vs.length) none).length
    simp [l.len, hN]
  · have hd : (ds.map some ++ List.replicate (n - ds.length) none)[i]? = some (some d) := hd
    show ∃ v, (vs.map some ++ List.replicate (N.length - vs.length) none)[i]? = some (some v) ∧ _
    by_cases hi : i < ds.length
    · rw [List.getElem?_append_left (by simpa using hi), List.getElem?_map] at hd
      obtain ⟨d', h1, h2⟩ := Option.map_eq_some_iff.mp hd
      cases h2
      obtain ⟨v, hv, rv⟩ := l.at_ h1
      refine ⟨v, ?_, rv⟩
      rw [List.getElem?_append_left (by rw [List.length_map, l.len]; exact hi), List.getElem?_map, hv]
      rfl
    · rw [List.getElem?_append_right (by simpa using Nat.le_of_not_lt hi), List.getElem?_replicate] at hd
      split at hd <;> cases hd
abbrev wE (E : XK) : WX := fun cls d _ H => E cls d H
/-- a def's body keeps what is asked -/
theorem run_M {k n : Nat} {b : MS} {vs : List V} {H : Hp} {Q : VK} {E : XK} {N : List Str} {bk ct : L2.St → Hp → Prop} (hN : N.length = n) (h : spM K (mkF k n b) vs H Q E) : cS K p0 (wE E) b (Ends.mk (fun _ H' => Q .non H') Q bk ct) (L2.start N vs) H := by
  obtain ⟨w, ds, s, R, l, h⟩ := h
  refine ⟨w, ⟨env0 n ds, [], none⟩, s, R, env_start hN l, ?_⟩
  unfold mkF at h
  split at h
  · cases hr : b ⟨env0 n ds, [], none⟩ s with
    | nx e1 s1 => rw [hr] at h; exact fun w' H' σ' x R' E' => h w' H' .non x R' .non
    | rt v s1 => rw [hr] at h; exact fun w' H' v x R' r' => h w' H' v x R' r'
    | exc C fs e1 s1 => rw [hr] at h; exact fun w' H' σ' dx x R' E' hC rx => h w' H' dx x R' hC rx
    | bk e1 s1 => rw [hr] at h; exact h.elim
    | ct e1 s1 => rw [hr] at h; exact h.elim
    | stuck => rw [hr] at h; exact h.elim
  · exact h.elim
theorem len_M {k n : Nat} {b : MS} {vs : List V} {H : Hp} {Q : VK} {E : XK} (h : spM K (mkF k n b) vs H Q E) : vs.length = k := by
  obtain ⟨w, ds, s, R, l, h⟩ := h
  unfold mkF at h
  split at h
  · rename_i hk; rw [l.len]; exact hk
  · exact h.elim
theorem len_I {L : List String} {k n : Nat} {b : MS} {vs : List V} {H : Hp} {Q : VK} {E : XK} (h : spI K L (mkI k n b) vs H Q E) : vs.length = k := by
  obtain ⟨w, a, dx, C, us, ds, s, rfl, R, _, _, _, _, l, h⟩ := h
  unfold mkI at h
  split at h
  · rename_i hk; rw [List.length_cons, l.len]; exact hk
  · exact h.elim
theorem len_X {C f : String} {j n : Nat} {vs : List V} {H : Hp} {Q : VK} {E : XK} (h : spX K C f j n vs H Q E) : vs.length = n := h.1
theorem run_I {L : List String} {k n : Nat} {b : MS} {vs : List V} {H : Hp} {Q : VK} {E : XK} {N : List Str} {bk ct : L2.St → Hp → Prop} (hN : N.length = n) (hn : 0 < n) (h : spI K L (mkI k n b) vs H Q E) :
    ∃ (x dx : Addr) (C : String), (L.all fun f => hasF C f) = true ∧ cS K ⟨none, 0, some (x, dx, C)⟩ (wE E) b (Ends.mk (fun _ H' => Q .non H') Q bk ct) (L2.start N vs) H := by
  obtain ⟨w, a, dx, C, us, ds, s, rfl, R, h1, h2, h3, h4, l, h⟩ := h
  refine ⟨a, dx, C, h4, w, ⟨none :: env0 (n - 1) ds, [], none⟩, s, R, ?_, ?_⟩
  · obtain ⟨m, rfl⟩ : ∃ m, n = m + 1 := ⟨n - 1, by omega⟩
    cases N with
    | nil => cases hN
    | cons x N =>
      have hN : N.length = m := by simpa using hN
      have es := env_start (K := K) (w := w) (H := H) hN l
      have e1 : L2.start (x :: N) (V.ref a :: us) = some (.ref a) :: L2.start N us := by
        unfold L2.start
        rw [List.map_cons, List.cons_append]
        simp
      rw [e1]
      refine ⟨by simpa using es.len, fun i d hd => ?_, ⟨rfl, rfl, h1, h3, rfl, [], h2, .nil⟩, rfl⟩
      cases i with
      | zero => cases hd
      | succ i => exact es.sl i d hd
  · unfold mkI at h
    split at h
    · cases hr : b ⟨none :: env0 (n - 1) ds, [], none⟩ s with
      | nx e1 s1 =>
        rw [hr] at h
        intro w' H' σ' x R' E'
        obtain ⟨m1, m0, m2, m3, m4, gs, m5, m6⟩ := E'.me
        exact h w' H' gs x R' m5 m4 m6
      | rt v s1 => rw [hr] at h; exact h.elim
      | exc C fs e1 s1 => rw [hr] at h; exact fun w' H' σ' dx x R' E' hC rx => h w' H' dx x R' hC rx
      | bk e1 s1 => rw [hr] at h; exact h.elim
      | ct e1 s1 => rw [hr] at h; exact h.elim
      | stuck => rw [hr] at h; exact h.elim
    · exact h.elim
end
/-! ## set a name, raise, constants -/
section
variable {K : PySem.W.Frag} {p : Px} {W : WX}
theorem i_asgN {i : Nat} {ma : ME} {t : TE} (hf : p.free i) (im : ∀ σ H Q, cE K p W ma σ H Q → t σ H Q) : ∀ D σ H, cS K p W (sAsg ma (hNm i)) D σ H → tAsg t (gName i) D σ H := fun D σ H ⟨w, e, s, R, E, h⟩ =>
  im σ H _ ⟨w, e, s, R, E, FinS.bind E h fun d s1 w1 H1 v x1 R1 r1 h1 => h1 w1 H1 _ (Ext.refl _ _ _) R1 ((E.ext x1).set r1 hf)⟩
theorem i_callD0 {f : MF} {us : List V} {dv : List Dx} (k : RvC K us dv) : ∀ σ H Q, cE K p W (eCallD f dv aNil) σ H Q → tCallSD (spM K f) us (WE W) tNil σ H Q := fun σ H Q h => i_nil σ H _ (i_callD k σ H Q h)
theorem i_makeD0 {C : String} {L : List String} {f : MI} {us : List V} {dv : List Dx} (k : RvC K us dv) (m : inT C = true) (hl : (L.all fun f => hasF C f) = true) : ∀ σ H Q, cE K p W (eMakeD C f dv aNil) σ H Q → tMakeSD (ga K C) (spI K L f) us (WE W) tNil σ H Q := fun σ H Q h => i_nil σ H _ (i_makeD k m hl σ H Q h)
theorem rvc0 : RvC K [] [] := fun _ _ => .nil
theorem rvc1 {v : V} {d : Dx} {us : List V} {ds : List Dx} (h : ∀ r G, Rv K r G v d) (k : RvC K us ds) : RvC K (v :: us) (d :: ds) := fun r G => .cons (h r G) (k r G)
theorem rv_non : ∀ r G, Rv K r G .non .non := fun _ _ => .non
theorem rv_bl {b : Bool} : ∀ r G, Rv K r G (.bl b) (.bl b) := fun _ _ => .bl b
theorem rv_int {i : Int} : ∀ r G, Rv K r G (.int i) (.int i) := fun _ _ => .int i
theorem rv_str {z : String} : ∀ r G, Rv K r G (.str (Str.ofString z)) (.str (tx z)) := fun _ _ => by rw [tS_tx]; exact .str (okT_tx z)
theorem allL {C : String} {L : List String} (h : (L.all fun f => hasF C f) = true) (i : Nat) {f : String} (e : L[i]? = some f) : hasF C f = true := List.all_eq_true.mp h f (List.mem_of_getElem? e)
theorem qs_raise {X : Cx} {C : String} {e : Expr} {pos : Pos} (m : inX C = true) (hc : X.calm = true) (tk : Takes X W) (he : PMk X e (fun _ H Q => Q (.ref (ga X.K C)) none H)) : PS X (.Raise (some e) none pos) (cS X.K p W (sRaise C)) := imS (i_raise m) (ps_raise hc tk he)
theorem qs_raiseO {X : Cx} {C f : String} {j n : Nat} {dv : List Dx} {us : List V} {ms : MA} {e : Expr} {pos : Pos} (m : inX C = true) (k : RvC X.K us dv) (hc : X.calm = true) (tk : Takes X W) (he : PMk X e (tMkO (ga X.K C) (spX X.K C f j n) us (cA X.K p W ms))) : PS X (.Raise (some e) none pos) (cS X.K p W (sRaiseO C f j n dv ms)) := imS (i_raiseO m k) (ps_raise hc tk he)
end
/-! ## calls -/
section
variable {X : Cx}
theorem qe_call0 {CX : CXT} {k : Nat} {f : Addr} {fd : FuncData} {ps : List Str} {sp : Sp} {E : L2.St → XK} {x : Str} {p pos : Pos} (F : FnOk X.prog X.w X.K X.mg X.base CX k f fd ps sp) (room : Room k X.A) (gl : Gl X x) (mg : X.mg x = some (.ref f)) (kp : PySem.W.keepIn X.K (.ref f) = true)
    {ds : List Value} {us : List V} (bnd : Binds X.K fd ps ds) (hd : Vals us ds) (out : ∀ σ, PassesAt CX X σ (E σ)) (hdb : (x == ("__debug__" : Str)) = false := by decide) : PE X (.Call (.Name x p) [] [] pos) (tCallSD sp us E tNil) := by
  constructor
  intro pins s σ H Q I q
  refine wpAny_Call_Name_kw (ld_glob I gl mg ?_ hdb)
  exact PySem.W.callWith_K0 I.kIn kp (run_fnSD (us := []) F room bnd hd (out σ) I .nil q)
theorem run_makeD {C : Addr} {pins : List (Addr × Obj)} {σ : L2.St} {H : Hp} {s : Shared} {Q : VK} {CX : CXT} {k : Nat} {fi : Addr} {fd : FuncData} {ps : List Str} {sp : Sp} {E : XK} {args : List Value} {vs : List V} {ds : List Value} {us : List V} (M : Mk X.K C fi) (F : FnOk X.prog X.w X.K X.mg X.base CX k fi fd ps sp)
    (room : Room (k + 1) X.A) (bnd : Binds X.K fd ps ds) (hd : Vals us ds) (out : PassesAt CX X σ E) (I : Inv X pins σ H s) (rel : Vals vs args)
    (q : ∀ a b, H a = none → (H b = none ∧ b ≠ a) → sp (.ref a :: (vs ++ us)) (upd (upd H b (.own a)) a (.ins C b [])) (fun v H2 => v = .non ∧ Q (.ref a) H2) E) : wpAny (model X.prog X.w) X.A (call (.ref C) args) (EP X pins σ Q) X.xe s := by
  have body := q _ _ (I.hok.fresh (a := s.heap.objs.size + 1) (Nat.le_succ _)) ⟨I.hok.fresh (a := s.heap.objs.size) (Nat.le_refl _), Nat.ne_of_lt (Nat.lt_succ_self _)⟩
  have J := Inv.made (C := C) I
  have rel2 : Vals (V.ref (s.heap.objs.size + 1) :: (vs ++ us)) (Value.ref (s.heap.objs.size + 1) :: (args ++ ds)) := .cons rfl (rel.append hd)
  have ln : (Value.ref (s.heap.objs.size + 1) :: (args ++ ds)).length = ps.length := by
    rw [← rel2.length]
    exact F.len _ _ _ _ body
  have bt := bnd _ (Value.ref (s.heap.objs.size + 1) :: args) J.kIn ln
  have go := F.run _ X.stack _ _ _ _ _ _ E (room.make C args []) (J.env0.make C args []) bt rel2 body
  refine wpAny_call (make_map (f := fi) I.kIn M.makes M.init (beq_iff_eq.mp M.fn) (codeAny_mono go ?_))
  intro r st post
  match r, post with
  | .error e, post => exact out pins _ _ e st J post
  | .ok (.ret u), post =>
    obtain ⟨v, H2, I2, ru, ev, q2⟩ := J.after post
    subst ev
    exact And.intro ru (show EP X pins σ Q (Value.ref (s.heap.objs.size + 1)) _ from ⟨V.ref (s.heap.objs.size + 1), H2, I2, rfl, q2⟩)
  | .ok .next, post => exact post.elim
  | .ok .brk, post => exact post.elim
  | .ok .cont, post => exact post.elim
theorem qe_makeD {C : Addr} {x : Str} {p pos : Pos} {CX : CXT} {k : Nat} {fi : Addr} {fd : FuncData} {ps : List Str} {sp : Sp} {E : L2.St → XK} {e : Expr} {es : List Expr} {t : TA} {ds : List Value} {us : List V} (M : Mk X.K C fi) (F : FnOk X.prog X.w X.K X.mg X.base CX k fi fd ps sp)
    (room : Room (k + 1) X.A) (gl : Gl X x) (mg : X.mg x = some (.ref C)) (bnd : Binds X.K fd ps ds) (hd : Vals us ds) (out : ∀ σ, PassesAt CX X σ (E σ)) (ha : PA X (e :: es) t) (hdb : (x == ("__debug__" : Str)) = false := by decide)
    (st : starEach (e :: es) X.env = (false, eval e X.env) :: starEach es X.env := by rfl) (pl : (backTo pos (starEach es X.env)).any (·.1) = false := by rfl) : PE X (.Call (.Name x p) (e :: es) [] pos) (tMakeSD C sp us E t) := by
  constructor
  intro pins s σ H Q I q
  refine wpAny_Call_Name_kw (ld_glob I gl mg ?_ hdb)
  have args := ha.run pos pins s σ H _ I q
  refine PySem.W.callWith_K (h₀ := X.base) I.ok.mod.kin M.kp (thn args ?_) st pl
  rintro vs s1 ⟨ws, H1, I1, r, q2⟩
  exact ⟨I1.kIn, run_makeD M F room bnd hd (out σ) I1 r q2⟩
theorem qe_makeD0 {C : Addr} {x : Str} {p pos : Pos} {CX : CXT} {k : Nat} {fi : Addr} {fd : FuncData} {ps : List Str} {sp : Sp} {E : L2.St → XK} {ds : List Value} {us : List V} (M : Mk X.K C fi) (F : FnOk X.prog X.w X.K X.mg X.base CX k fi fd ps sp)
    (room : Room (k + 1) X.A) (gl : Gl X x) (mg : X.mg x = some (.ref C)) (bnd : Binds X.K fd ps ds) (hd : Vals us ds) (out : ∀ σ, PassesAt CX X σ (E σ)) (hdb : (x == ("__debug__" : Str)) = false := by decide) : PE X (.Call (.Name x p) [] [] pos) (tMakeSD C sp us E tNil) := by
  constructor
  intro pins s σ H Q I q
  refine wpAny_Call_Name_kw (ld_glob I gl mg ?_ hdb)
  exact PySem.W.callWith_K0 I.kIn M.kp (run_makeD (args := []) M F room bnd hd (out σ) I .nil q)
theorem qe_meth {C : Addr} {m : Str} {o : Expr} {ta : TE} {apos pos : Pos} {CX : CXT} {k : Nat} {f : Addr} {fd : FuncData} {ps : List Str} {sp : Sp} {E : L2.St → XK} {e : Expr} {es : List Expr} {t : TA} {pl : Sem Bool} (he : PE X o ta) (c : Cls X.K C) (mt : Meth X.K C m f) (F : FnOk X.prog X.w X.K X.mg X.base CX k f fd ps sp) (room : Room k X.A)
    (bnd : Binds X.K fd ps []) (out : ∀ σ, PassesAt CX X σ (E σ)) (ha : PA X (e :: es) t) (st : starEach (e :: es) X.env = (false, eval e X.env) :: starEach es X.env := by rfl) (hpl : (backTo pos (starEach es X.env)).any (·.1) = false := by rfl)
    (ht : eval (.Call (.Attribute o m apos) (e :: es) [] pos) X.env = (do
      let v ← eval o X.env
      standAt apos.atName
      let (g, first) ← holding [v] (getMethod v m pl)
      callWith pos g first (backTo pos (starEach (e :: es) X.env)) (backToKw pos (keywordEach [] X.env))) := by rfl) : PE X (.Call (.Attribute o m apos) (e :: es) [] pos) (tMethS C m sp E ta t) := by
  constructor
  intro pins s σ H Q I q
  refine PySem.W.methodCall_KW (pl := pl) (thn (he.run pins s σ H _ I q) fun u s1 ⟨x, H1, I1, rx, a, dx, fs, ex, ea, l, q1⟩ => ?_) ht
  subst ex
  obtain rfl : u = Value.ref a := rx
  refine getmeth_ok I1 ea c mt l ?_
  refine PySem.W.callWith_K (first := [.ref a]) (h₀ := X.base) I.ok.mod.kin mt.kp (thn (ha.run pos pins s1 σ H1 _ I1 q1) fun us s2 ⟨vs, H2, I2, r, q2⟩ => ⟨I2.kIn, ?_⟩) st hpl
  exact run_fnSD (us := .ref a :: us) (vs := .ref a :: vs) F room bnd .nil (out σ) I2 (.cons rfl r) (by rw [List.append_nil]; exact q2)
theorem qe_meth0 {C : Addr} {m : Str} {o : Expr} {ta : TE} {apos pos : Pos} {CX : CXT} {k : Nat} {f : Addr} {fd : FuncData} {ps : List Str} {sp : Sp} {E : L2.St → XK} {pl : Sem Bool} (he : PE X o ta) (c : Cls X.K C) (mt : Meth X.K C m f) (F : FnOk X.prog X.w X.K X.mg X.base CX k f fd ps sp) (room : Room k X.A)
    (bnd : Binds X.K fd ps []) (out : ∀ σ, PassesAt CX X σ (E σ))
    (ht : eval (.Call (.Attribute o m apos) [] [] pos) X.env = (do
      let v ← eval o X.env
      standAt apos.atName
      let (g, first) ← holding [v] (getMethod v m pl)
      callWith pos g first (backTo pos (starEach [] X.env)) (backToKw pos (keywordEach [] X.env))) := by rfl) : PE X (.Call (.Attribute o m apos) [] [] pos) (tMethS C m sp E ta tNil) := by
  constructor
  intro pins s σ H Q I q
  refine PySem.W.methodCall_KW (pl := pl) (thn (he.run pins s σ H _ I q) fun u s1 ⟨x, H1, I1, rx, a, dx, fs, ex, ea, l, q1⟩ => ?_) ht
  subst ex
  obtain rfl : u = Value.ref a := rx
  refine getmeth_ok I1 ea c mt l ?_
  exact PySem.W.callWith_K0 (first := [.ref a]) I1.kIn mt.kp (run_fnSD (us := [.ref a]) (vs := [.ref a]) F room bnd .nil (out σ) I1 (.cons rfl .nil) (by exact q1))
/-- alternatives -/
theorem qe_altN {e : Expr} {m : String} {E : L2.St → XK} {ta : TE} {t : TA} : PE X e (altM X.K m E ta t []) := ⟨fun _ _ _ _ _ _ q => q.elim⟩
theorem qe_altC {e : Expr} {m C : String} {f : MF} {r : List (String × MF)} {E : L2.St → XK} {ta : TE} {t : TA} (h : PE X e (tMethS (ga X.K C) (Str.ofString m) (spM X.K f) E ta t)) (k : PE X e (altM X.K m E ta t r)) : PE X e (altM X.K m E ta t ((C, f) :: r)) := pe_alt h k
end
end Ps
namespace Ps
open PySem PySem.Spec PyProof.Rows L2 Vs He Pm
/-! ## what calls itself: no turn left -/
theorem vac_ok {P : Program} {w : World} {K : PySem.W.Frag} {mg : Str → Option Value} {base : Heap} {CX : CXT} {k : Nat} {f : Addr} {fd : FuncData} {ps : List Str} : FnOk P w K mg base CX k f fd ps (spM K (fun _ _ => .stuck)) :=
  ⟨fun vs H Q E h => by obtain ⟨w, ds, s, R, l, h⟩ := h; exact h.elim, fun A outer s H args us vs Q E hr he hb hv h => by obtain ⟨w, ds, s, R, l, h⟩ := h; exact h.elim⟩
end Ps

/-! # soundness: more constructs -/
namespace Ps
open PySem PySem.Spec PyProof.Rows L2 Vs He Pm
section
variable {X : Cx} {CX : CXT} {k n : Nat} {f C : Addr} {fd : FuncData} {ps ks : List Str} {sp : Sp} {E : L2.St → XK} {x : Str} {p pos : Pos} {e : Expr} {es : List Expr} {kws : List Keyword} {t tk : TA} {g : List Value → List Value → List Value} {gV : List V → List V → List V}
/-! ## C(.., k = v, ..) -/
def tMkN (C : Addr) (n m : Nat) (sp : Sp) (gV : List V → List V → List V) (E : L2.St → XK) (t tk : TA) : TE := fun σ H Q => t σ H fun vs H1 => tk σ H1 fun zs H2 => vs.length = n ∧ zs.length = m ∧ ∀ x dx, H2 x = none → H2 dx = none → dx ≠ x →
  sp (gV (.ref x :: vs) zs) (upd (upd H2 dx (.own x)) x (.ins C dx [])) (fun v H3 => v = .non ∧ Q (.ref x) H3) (E σ)
theorem run_mkN {pins : List (Addr × Obj)} {σ : L2.St} {H : Hp} {s : Shared} {Q : VK} {E : XK} {us ws : List Value} {vs zs : List V} (M : Mk X.K C f) (F : FnOk X.prog X.w X.K X.mg X.base CX k f fd ps sp) (room : Room (k + 1) X.A) (kb : KBn X.K fd ps (n + 1) ks g gV) (out : PassesAt CX X σ E)
    (I : Inv X pins σ H s) (r : Vals vs us) (rz : Vals zs ws) (l1 : vs.length = n) (l2 : zs.length = ks.length)
    (q : ∀ a b, H a = none → H b = none → b ≠ a → sp (gV (.ref a :: vs) zs) (upd (upd H b (.own a)) a (.ins C b [])) (fun v H2 => v = .non ∧ Q (.ref a) H2) E) :
    wpAny (model X.prog X.w) X.A (call (.ref C) us (ks.zip ws)) (EP X pins σ Q) X.xe s := by
  have body := q (s.heap.objs.size + 1) s.heap.objs.size (I.hok.fresh (Nat.le_succ _)) (I.hok.fresh (Nat.le_refl _)) (Nat.ne_of_lt (Nat.lt_succ_self _))
  have J := Inv.made (C := C) I
  have ra : Vals (V.ref (s.heap.objs.size + 1) :: vs) (Value.ref (s.heap.objs.size + 1) :: us) := .cons rfl r
  have la : (Value.ref (s.heap.objs.size + 1) :: us).length = n + 1 := congrArg (· + 1) (r.length.symm.trans l1)
  have go := F.run _ X.stack _ _ ⟨Value.ref (s.heap.objs.size + 1) :: us, ks.zip ws⟩ (g (Value.ref (s.heap.objs.size + 1) :: us) ws) _ _ E (room.make C us (ks.zip ws)) (J.env0.make C us (ks.zip ws)) (kb.to _ _ ws J.kIn la (rz.length.symm.trans l2)) (kb.rel ra rz) body
  refine wpAny_call (make_map (f := f) I.kIn M.makes M.init (beq_iff_eq.mp M.fn) (codeAny_mono go ?_))
  intro r st post
  match r, post with
  | .error e, post => exact out pins _ _ e st J post
  | .ok (.ret u), post =>
    obtain ⟨v, H2, I2, ru, ev, q2⟩ := J.after post
    subst ev
    exact And.intro ru (show EP X pins σ Q (Value.ref (s.heap.objs.size + 1)) _ from ⟨V.ref (s.heap.objs.size + 1), H2, I2, rfl, q2⟩)
  | .ok .next, post => exact post.elim
  | .ok .brk, post => exact post.elim
  | .ok .cont, post => exact post.elim
theorem pe_mkN0 (M : Mk X.K C f) (F : FnOk X.prog X.w X.K X.mg X.base CX k f fd ps sp) (room : Room (k + 1) X.A) (gl : Gl X x) (mg : X.mg x = some (.ref C)) (kb : KBn X.K fd ps 1 ks g gV) (out : ∀ σ, PassesAt CX X σ (E σ)) (hkw : PK X kws tk)
    (hall : (backToKw pos (keywordEach kws X.env)).all (·.1.isSome) = true := by rfl) (hks : (backToKw pos (keywordEach kws X.env)).filterMap (·.1) = ks := by rfl) (hdb : (x == ("__debug__" : Str)) = false := by decide)
    (pl : ((backTo pos (starEach [] X.env)).any (·.1) || (backToKw pos (keywordEach kws X.env)).any (·.1.isNone)) = false := by rfl) :
    PE X (.Call (.Name x p) [] kws pos) (tMkN C 0 ks.length sp gV E tNil tk) := by
  constructor
  intro pins s σ H Q I q
  refine wpAny_Call_Name_kw (ld_glob I gl mg ?_ hdb)
  refine PySem.W.callWith_KW0 (h₀ := X.base) I.ok.mod.kin M.kp hall ?_ pl
  refine thn (hkw.run pos pins s σ H _ I q) fun ws s2 ⟨zs, H2, I2, rz, l1, l2, q2⟩ => ⟨I2.kIn, ?_⟩
  rw [hks]
  exact run_mkN (n := 0) (vs := []) M F room kb (out σ) I2 .nil rz l1 l2 q2
theorem pe_mkN (M : Mk X.K C f) (F : FnOk X.prog X.w X.K X.mg X.base CX k f fd ps sp) (room : Room (k + 1) X.A) (gl : Gl X x) (mg : X.mg x = some (.ref C)) (kb : KBn X.K fd ps (n + 1) ks g gV) (out : ∀ σ, PassesAt CX X σ (E σ)) (ha : PA X (e :: es) t) (hkw : PK X kws tk)
    (hall : (backToKw pos (keywordEach kws X.env)).all (·.1.isSome) = true := by rfl) (hks : (backToKw pos (keywordEach kws X.env)).filterMap (·.1) = ks := by rfl) (hdb : (x == ("__debug__" : Str)) = false := by decide)
    (st : starEach (e :: es) X.env = (false, eval e X.env) :: starEach es X.env := by rfl) (pl : ((backTo pos (starEach (e :: es) X.env)).any (·.1) || (backToKw pos (keywordEach kws X.env)).any (·.1.isNone)) = false := by rfl) :
    PE X (.Call (.Name x p) (e :: es) kws pos) (tMkN C n ks.length sp gV E t tk) := by
  constructor
  intro pins s σ H Q I q
  refine wpAny_Call_Name_kw (ld_glob I gl mg ?_ hdb)
  refine PySem.W.callWith_KW (h₀ := X.base) I.ok.mod.kin M.kp hall (thn (ha.run pos pins s σ H _ I q) fun us s1 ⟨vs, H1, I1, r, q1⟩ => ?_) pl st
  refine thn (hkw.run pos pins s1 σ H1 _ I1 q1) fun ws s2 ⟨zs, H2, I2, rz, l1, l2, q2⟩ => ⟨I2.kIn, ?_⟩
  rw [hks]
  exact run_mkN M F room kb (out σ) I2 r rz l1 l2 q2
end
section
variable {K : PySem.W.Frag} {p : Px} {W : WX}
theorem RvL.reverse {r : List Addr} {G : Hp} : ∀ {vs : List V} {ds : List Dx}, RvL K r G vs ds → RvL K r G vs.reverse ds.reverse
  | _, _, .nil => .nil
  | _, _, .cons h l => by
    rw [List.reverse_cons, List.reverse_cons]
    exact l.reverse.app (.cons h .nil)
theorem i_mkN {C : String} {L : List String} {f : MI} {n m : Nat} {gd : List Dx → List Dx → List Dx} {gV : List V → List V → List V} {ma mk : MA} (mc : inT C = true) (hl : (L.all fun f => hasF C f) = true)
    (hg : ∀ (r : List Addr) (G : Hp) (x : V) (vs zs : List V) (ds es : List Dx), RvL K r G vs ds → RvL K r G zs es → ∃ us, gV (x :: vs) zs = x :: us ∧ RvL K r G us (gd ds es)) :
    ∀ σ H Q, cE K p W (eMakeK C f n m gd ma mk) σ H Q → tMkN (ga K C) n m (spI K L f) gV (WE W) (cA K p W ma) (cA K p W mk) σ H Q := fun σ H Q ⟨w, e, s, R, E, h⟩ =>
  ⟨w, e, s, R, E, Fin.bind h fun d s1 w1 H1 v x1 R1 r1 h1 => ⟨w1, e, s1, R1, E.ext x1, Fin.bind h1 fun d2 s2 w2 H2 v2 x2 R2 r2 h2 => by
    split at h2
    · rename_i hn
      refine ⟨by rw [r1.len]; exact hn.1, by rw [r2.len]; exact hn.2, fun a b ha hb ne => ?_⟩
      obtain ⟨us, e1, l⟩ := hg _ _ (.ref a) _ _ _ _ (r1.ext x2) r2
      rw [e1]
      exact make_tree mc hl R2 l h2 a b ha ⟨hb, ne⟩
    · exact h2.elim⟩⟩
theorem i_mkN0 {C : String} {L : List String} {f : MI} {m : Nat} {gd : List Dx → List Dx → List Dx} {gV : List V → List V → List V} {mk : MA} (mc : inT C = true) (hl : (L.all fun f => hasF C f) = true)
    (hg : ∀ (r : List Addr) (G : Hp) (x : V) (vs zs : List V) (ds es : List Dx), RvL K r G vs ds → RvL K r G zs es → ∃ us, gV (x :: vs) zs = x :: us ∧ RvL K r G us (gd ds es)) :
    ∀ σ H Q, cE K p W (eMakeK C f 0 m gd aNil mk) σ H Q → tMkN (ga K C) 0 m (spI K L f) gV (WE W) tNil (cA K p W mk) σ H Q := fun σ H Q h => i_nil σ H _ (i_mkN mc hl hg σ H Q h)
theorem i_rev {ma : ME} : ∀ σ H Q, cE K p W (eUn revD ma) σ H Q → tRevL K (cE K p W ma) σ H Q := fun σ H Q ⟨w, e, s, R, E, h⟩ =>
  ⟨w, e, s, R, E, Fin.bind h fun x s1 w1 H1 v x1 R1 r1 h1 => by
    unfold revD at h1
    split at h1
    · rename_i xs hq
      obtain ⟨a, vs, rfl, h5, l2⟩ := r1.asL R1 hq
      exact ⟨a, vs, rfl, h5, fun p n => Fin.tree h1 R1 l2.reverse n⟩
    · exact h1.elim⟩
end
end Ps
namespace Ps
open PySem PySem.Spec PyProof.Rows L2 Vs He Pm
theorem imK {X : Cx} {es : List Keyword} {t u : TA} (i : ∀ σ H Q, u σ H Q → t σ H Q) (h : PK X es t) : PK X es u := ⟨fun pos pins s σ H Q I q => h.run pos pins s σ H Q I (i σ H Q q)⟩
end Ps
namespace Ps
open PySem PySem.Spec PyProof.Rows L2 Vs He Pm
theorem allF {l : List (String × MF)} {Ns : List String} {m : String} (e : l.map (·.1) = Ns) (h : (Ns.all fun C => !hasF C m) = true) : (l.all fun q => !hasF q.1 m) = true := by
  subst e
  rw [List.all_map] at h
  exact h
end Ps
namespace Ps
open PySem PySem.Spec PyProof.Rows L2 Vs He Pm
theorem om_notB {X : Cx} : OpM X (compareOp .IsNot) notBD := by
  refine ⟨_, op_notBl, ?_⟩
  intro w H s x y d e Q E R hx hy h
  unfold notBD at h
  split at h
  · cases hx; cases hy
    refine ⟨_, _, rfl, rfl, ?_⟩
    rw [← Bool.beq_eq_decide_eq]
    exact Fin.now h R (.bl _)
  · exact h.elim
end Ps

/-! # soundness: more of lists, pairs that are walked -/
namespace Ps
open PySem PySem.Spec PyProof.Rows L2 Vs He Pm
section
variable {K : PySem.W.Frag} {p : Px} {W : WX}
theorem i_clear {mo : ME} : ∀ σ H Q, cE K p W (eClear mo) σ H Q → tBM0 K "list" rClear (cE K p W mo) σ H Q := fun σ H Q ⟨w, e, s, R, E, h⟩ =>
  ⟨w, e, s, R, E, Fin.bind h fun x s1 w1 H1 v x1 R1 r1 h1 => by
    split at h1
    · split at h1
      · rename_i xs hs
        cases r1 with
        | cell hn =>
          rename_i a
          obtain ⟨o, ho, hc⟩ := R1.at_ hn hs
          cases hc with
          | lst l =>
            obtain ⟨R3, e3⟩ := R1.put hn (Rc.lst (.nil))
            exact ⟨.inl ⟨rfl, _, SqL.of ho⟩, a, _, rfl, rfl, ho, h1 w1 _ _ e3 R3 .non⟩
      · exact h1.elim
    · exact h1.elim⟩
theorem RvL.init {r : List Addr} {G : Hp} : ∀ {vs : List V} {ds : List Dx}, RvL K r G vs ds → RvL K r G vs.dropLast ds.dropLast
  | _, _, .nil => .nil
  | _, _, .cons h .nil => .nil
  | _, _, .cons h (.cons k l) => by
    rw [List.dropLast_cons₂, List.dropLast_cons₂]
    exact .cons h (RvL.init (.cons k l))
theorem i_pop {mo : ME} : ∀ σ H Q, cE K p W (ePop mo) σ H Q → tBM0 K "list" rPop (cE K p W mo) σ H Q := fun σ H Q ⟨w, e, s, R, E, h⟩ =>
  ⟨w, e, s, R, E, Fin.bind h fun x s1 w1 H1 v x1 R1 r1 h1 => by
    split at h1
    · split at h1
      · rename_i xs hs
        cases r1 with
        | cell hn =>
          rename_i a
          obtain ⟨o, ho, hc⟩ := R1.at_ hn hs
          cases hc with
          | lst l =>
            split at h1
            · rename_i d hd
              obtain ⟨y, hy, ry⟩ := l.at_ hd
              obtain ⟨R3, e3⟩ := R1.put hn (Rc.lst l.init)
              exact ⟨.inl ⟨rfl, _, SqL.of ho⟩, a, _, y, rfl, rfl, ho, by rw [l.len]; exact hy, h1 w1 _ _ e3 R3 (ry.ext e3)⟩
            · exact h1.elim
      · exact h1.elim
    · exact h1.elim⟩
theorem i_pop0 {mo : ME} : ∀ σ H Q, cE K p W (ePop0 mo) σ H Q → tBM K "list" rPopAt (cE K p W mo) (tCons (tC (.int 0)) tNil) σ H Q := fun σ H Q ⟨w, e, s, R, E, h⟩ =>
  ⟨w, e, s, R, E, Fin.bind h fun x s1 w1 H1 v x1 R1 r1 h1 => by
    split at h1
    · split at h1
      · rename_i d xs hs
        cases r1 with
        | cell hn =>
          rename_i a
          obtain ⟨o, ho, hc⟩ := R1.at_ hn hs
          cases hc with
          | lst l =>
            cases l with
            | cons ry l =>
              rename_i y ys
              obtain ⟨R3, e3⟩ := R1.put hn (Rc.lst l)
              refine ⟨.inl ⟨rfl, _, SqL.of ho⟩, a, _, 0, 0, y, rfl, rfl, ho, by decide, by decide, ?_, rfl, h1 w1 _ _ e3 R3 (ry.ext e3)⟩
              unfold seqIndex?
              simp
      · exact h1.elim
    · exact h1.elim⟩
theorem i_ext {mo ma : ME} : ∀ σ H Q, cE K p W (eExt mo ma) σ H Q → tBM K "list" rExtend (cE K p W mo) (tCons (cE K p W ma) tNil) σ H Q := fun σ H Q ⟨w, e, s, R, E, h⟩ =>
  ⟨w, e, s, R, E, Fin.bind h fun x s1 w1 H1 v x1 R1 r1 h1 => by
    split at h1
    · split at h1
      · rename_i xs hs
        cases r1 with
        | cell hn =>
          rename_i a
          obtain ⟨o, ho, hc⟩ := R1.at_ hn hs
          cases hc with
          | lst l =>
            refine ⟨.inl ⟨rfl, _, SqL.of ho⟩, w1, e, s1, R1, E.ext x1, Fin.bind h1 fun d2 s2 w2 H2 v2 x2 R2 r2 h2 => ?_⟩
            split at h2
            · rename_i zs ys hz hs2
              obtain ⟨o2, ho2, hc2⟩ := R2.at_ (x2.pre _ _ hn) hs2
              cases hc2 with
              | lst l2 =>
                obtain ⟨b, us, rfl, hb, lb⟩ := Rv.asM R2 r2 hz
                split at h2
                · rename_i hl
                  obtain ⟨R3, e3⟩ := R2.put (x2.pre _ _ hn) (Rc.lst (l2.app lb))
                  exact ⟨a, b, _, us, rfl, rfl, ho2, hb, by rw [l2.len, lb.len]; exact most_le hl, h2 w2 _ _ e3 R3 .non⟩
                · exact h2.elim
            · exact h2.elim
      · exact h1.elim
    · exact h1.elim⟩
theorem idx_at {r : List Addr} {G : Hp} {v : V} {d : Dx} (hv : Rv K r G v d) (fv : flat d = true) : ∀ {vs : List V} {ds : List Dx} {j : Nat}, RvL K r G vs ds → ds.all flat = true → idxOf d ds = some j →
    ∃ z, vs[j]? = some z ∧ eqV z v = true ∧ ∀ (m : Nat) (z' : V), m < j → vs[m]? = some z' → eqV z' v = false
  | _, _, _, .nil, _, h => by cases h
  | _, _, j, .cons (v := u) (d := x) hx l, f, h => by
    simp only [List.all_cons, Bool.and_eq_true] at f
    have e := eq_flat hx hv f.1 fv
    unfold idxOf at h
    split at h
    · rename_i q
      cases h
      exact ⟨u, rfl, e.trans q, fun m z' hm => absurd hm (Nat.not_lt_zero _)⟩
    · rename_i q
      obtain ⟨i, hi, rfl⟩ := Option.map_eq_some_iff.mp h
      obtain ⟨z, h1, h2, h3⟩ := idx_at hv fv l f.2 hi
      refine ⟨z, h1, h2, fun m z' hm hz => ?_⟩
      cases m with
      | zero => cases hz; rw [e]; simpa using q
      | succ m => exact h3 m z' (by omega) hz
theorem i_index {mo ma : ME} : ∀ σ H Q, cE K p W (eIndex mo ma) σ H Q → tBM K "list" (rIndex K) (cE K p W mo) (tCons (cE K p W ma) tNil) σ H Q := fun σ H Q ⟨w, e, s, R, E, h⟩ =>
  ⟨w, e, s, R, E, Fin.bind h fun x s1 w1 H1 v x1 R1 r1 h1 => by
    split at h1
    · rename_i xs hq
      obtain ⟨a, vs, rfl, ha, la⟩ := r1.asL R1 hq
      refine ⟨.inl ⟨rfl, _, ha⟩, w1, e, s1, R1, E.ext x1, Fin.bind h1 fun d2 s2 w2 H2 v2 x2 R2 r2 h2 => ?_⟩
      split at h2
      · rename_i ys hq2
        obtain ⟨b, us, eb, hb, lb⟩ := (r1.ext x2).asL R2 hq2
        cases eb
        split at h2
        · rename_i hf
          simp only [Bool.and_eq_true] at hf
          split at h2
          · rename_i j hj
            obtain ⟨z, h3, h4, h5⟩ := idx_at r2 hf.1 lb hf.2 hj
            exact ⟨a, us, v2, j, z, rfl, rfl, hb, flat_V r2 hf.1, all_flat lb hf.2, h3, h4, h5, Fin.now h2 R2 (.int _)⟩
          · exact h2.elim
        · exact h2.elim
      · exact h2.elim
    · exact h1.elim⟩
theorem i_augF (hc : Hc K) {f : String} {mo ma : ME} {op : O2} {rd : V → V → Hp → VK → Prop} (sr : SimO2 K rd op) : ∀ D σ H, cS K p W (sAugF f mo ma op) D σ H → sFldAug K (cE K p W mo) (cE K p W ma) rd (Str.ofString f) D σ H := fun D σ H ⟨w, e, s, R, E, h⟩ =>
  ⟨w, e, s, R, E, FinS.bind E h fun d s1 w1 H1 v x1 R1 r1 h1 => by
    split at h1
    · split at h1
      · rename_i n C fs hs
        cases r1 with
        | cell hn =>
          rename_i a
          obtain ⟨o, ho, hcc⟩ := R1.at_ hn hs
          cases hcc with
          | obj m g l =>
            rename_i dx gs
            split at h1
            · rename_i u hu
              obtain ⟨u', hu', ru⟩ := l.look hu
              have hh : hasF C f = true := by
                have := List.all_eq_true.mp g
                have hm : (f, u) ∈ fs := by
                  clear l h1 ho hs
                  induction fs with
                  | nil => cases hu
                  | cons q fs ih =>
                    obtain ⟨k, x⟩ := q
                    rw [List.lookup_cons] at hu
                    by_cases hk : f = k
                    · subst hk
                      simp only [beq_self_eq_true] at hu
                      cases hu
                      exact List.mem_cons_self
                    · have : (f == k) = false := by simpa using hk
                      rw [this] at hu
                      have g' : (fs.all fun q => hasF C q.1) = true := by simp only [List.all_cons, Bool.and_eq_true] at g; exact g.2
                      exact List.mem_cons_of_mem _ (ih g' hu (List.all_eq_true.mp g'))
                exact this _ hm
              refine ⟨a, _, dx, gs, u', rfl, ho, hc.cls m, hc.na hh, hu', w1, e, s1, R1, E.ext x1, FinS.bind (E.ext x1) h1 fun y s2 w2 H2 v2 x2 R2 r2 h2 => ?_⟩
              refine sr w2 H2 s2 _ _ _ _ _ (WE W σ) R2 (ru.ext x2) r2 (FinS.bind ((E.ext x1).ext x2) h2 fun z s3 w3 H3 v3 x3 R3 r3 h3 => ?_)
              split at h3
              · rename_i C2 fs2 hs3
                obtain ⟨o3, ho3, hc3⟩ := R3.at_ (x3.pre _ _ (x2.pre _ _ hn)) hs3
                cases hc3 with
                | obj m3 g3 l3 =>
                  rename_i dx3 gs3
                  split at h3
                  · rename_i hk
                    obtain ⟨rfl, hk1, hk2⟩ := hk
                    obtain ⟨R4, e4⟩ := R3.put (x3.pre _ _ (x2.pre _ _ hn)) (Rc.obj (dx := dx3) m3 (putF_all hk1 g3) (l3.put r3 f))
                    exact ⟨dx3, gs3, ho3, by rw [l3.len]; omega, h3 w3 _ σ e4.weak R4 ((((E.ext x1).ext x2).ext x3).ext e4)⟩
                  · exact h3.elim
              · exact h3.elim
            · exact h1.elim
      · exact h1.elim
    · exact h1.elim⟩
theorem sim_rAdd : SimO2 K rAdd addI := by
  intro w H s x y d e Q E R hx hy h
  unfold addI at h
  split at h
  · cases hx; cases hy; exact ⟨_, _, rfl, rfl, Fin.now h R (.int _)⟩
  · exact h.elim
theorem sim_rSub : SimO2 K rSub subD := by
  intro w H s x y d e Q E R hx hy h
  unfold subD at h
  split at h
  · cases hx; cases hy; exact ⟨_, _, rfl, rfl, Fin.now h R (.int _)⟩
  · exact h.elim
/-! ## pairs that are walked -/
abbrev relX (K : PySem.W.Frag) : List Addr → Hp → It → (List Dx × Option Nat × List Dx) → Prop := fun r G J x => ∀ w H s, Pre r w.r → Same G (w.G H) → Rel K w H s → stands x.2.1 x.2.2 s →
  J.stop x.1.length H ∧ ∀ i d, x.1[i]? = some d → J.go i H ∧ ∀ v H', J.yld i H v H' → Rel K w H' s ∧ Ext [] w H w H' ∧ Rv K w.r (w.G H') v d
abbrev cX (K : PySem.W.Frag) (p : Px) (W : WX) (m : MX) : TI := fun σ H Q => ∃ w e s, Rel K w H s ∧ RelE K p w H e σ ∧ Fin K w H (relX K) Q (WE W σ) (m e s)
theorem i_forX {mw : MX} {g : MG} {b : MS} {gs : List Nat} : ∀ D σ H, cS K p W (sForX mw g b) D σ H → tFor (cX K p W mw) (cG K p gs g) (cS K p W b) D σ H := fun D σ H ⟨w, e, s, R, E, h⟩ =>
  ⟨w, e, s, R, E, FinS.bind E h fun x s1 w1 H1 J x1 R1 r1 h1 => by
    obtain ⟨xs, cc, al⟩ := x
    refine ⟨fun i m σc Hc => m + i = xs.length ∧ ∃ w2 e2 s2, Ext p.z w1 H1 w2 Hc ∧ Rel K w2 Hc s2 ∧ RelE K p w2 Hc e2 σc ∧ FinS K p w2 Hc D W (forL g b cc al (xs.drop i) e2 s2), ⟨xs.length, by omega, w1, e, s1, Ext.refl _ _ _, R1, E.ext x1, h1⟩, fun i m σc Hc ⟨hm, w2, e2, s2, eH, R2, E2, hF⟩ => ?_⟩
    by_cases hlt : i < xs.length
    · have hd : xs.drop i = xs[i] :: xs.drop (i + 1) := List.drop_eq_getElem_cons hlt
      rw [hd] at hF
      unfold forL at hF
      by_cases st : stands cc al s2
      · rw [if_pos st] at hF
        obtain ⟨_, hy⟩ := r1 w2 Hc s2 eH.pre eH.s R2 st
        obtain ⟨hgo, hyl⟩ := hy i xs[i] (List.getElem?_eq_getElem hlt)
        refine .inr ⟨hgo, fun σ' H' => (m - 1) + (i + 1) = xs.length ∧ ∃ w2 e2 s2, Ext p.z w1 H1 w2 H' ∧ Rel K w2 H' s2 ∧ RelE K p w2 H' e2 σ' ∧ FinS K p w2 H' D W (forL g b cc al (xs.drop (i + 1)) e2 s2), fun σ' H' hH => ⟨m - 1, by omega, hH⟩, fun v H' hv => ?_⟩
        obtain ⟨R3, x3, rv⟩ := hyl v H' hv
        have E3 := E2.ext x3
        have eH3 := eH.trans x3.weak
        cases he : g xs[i] e2 s2 with
        | none => rw [he] at hF; exact hF.elim
        | some e3 =>
          rw [he] at hF
          simp only at hF
          refine ⟨w2, e2, s2, xs[i], e3, R3, E3, rv, he, fun σ3 E4 _ => ⟨w2, e3, s2, R3, E4, ?_⟩⟩
          cases hb : b e3 s2 with
          | nx e4 s4 => rw [hb] at hF; exact fun w4 H4 σ4 x4 R4 E4 => ⟨by omega, w4, e4, s4, eH3.trans x4, R4, E4, FinS.ext hF (x3.weak.trans x4)⟩
          | ct e4 s4 => rw [hb] at hF; exact fun w4 H4 σ4 x4 R4 E4 => ⟨by omega, w4, e4, s4, eH3.trans x4, R4, E4, FinS.ext hF (x3.weak.trans x4)⟩
          | bk e4 s4 => rw [hb] at hF; exact FinS.ext hF x3.weak
          | rt v4 s4 => rw [hb] at hF; exact FinS.ext hF x3.weak
          | exc C fs e4 s4 => rw [hb] at hF; exact FinS.ext hF x3.weak
          | stuck => rw [hb] at hF; exact hF
      · rw [if_neg st] at hF; exact hF.elim
    · have hie : i = xs.length := by omega
      have hd : xs.drop i = [] := List.drop_eq_nil_of_le (by omega)
      rw [hd] at hF
      unfold forL at hF
      by_cases st : stands cc al s2
      · rw [if_pos st] at hF
        obtain ⟨hst, _⟩ := r1 w2 Hc s2 eH.pre eH.s R2 st
        exact .inl ⟨by rw [hie]; exact hst, hF w2 Hc σc (Ext.refl _ _ _) R2 E2⟩
      · rw [if_neg st] at hF; exact hF.elim⟩
theorem i_lcX {c : Bool} {mw : MX} {g : MG} {tt : MT} {te : ME} {gs ws : List Nat} (hw : ∀ i ∈ ws, p.free i) (hs : ∀ i ∈ gs, i ∈ ws) : ∀ σ H Q, cE K p W (eLcX c mw g tt te ws) σ H Q → tLc (cX K p W mw) (cG K p gs g) (cT K p Wn tt) (cE K p Wn te) ws σ H Q := fun σ H Q ⟨w, e, s, R, E, h⟩ =>
  ⟨w, e, s, R, E, Fin.bind h fun x s1 w1 H1 J x1 R1 r1 h1 D hD => by
    obtain ⟨xs, cc, al⟩ := x
    split at h1
    · rename_i hl
      have E1 := E.ext x1
      refine ⟨fun i m Hc => m + i = xs.length ∧ ∃ w2 s2 vs ds, ExtH D w1 H1 w2 Hc ∧ Rel K w2 Hc s2 ∧ Hc D = some (.lst vs) ∧ RvL K w2.r (w2.G Hc) vs ds ∧ ds.length ≤ i ∧
        Fin K w1 H1 (Rv K) Q (WE W σ) ((lcL g tt te { e with sl := wipeE e.sl ws } cc al (xs.drop i) s2).bind fun ys s3 => Pm.newL c (ds ++ ys) s3), ⟨xs.length, by omega, ?_⟩, fun i m Hc ⟨hm, w2, s2, vs, ds, eH, R2, hD2, l2, hi, hF⟩ => ?_⟩
      · obtain ⟨R2, e2⟩ := R1.hide hD (.lst [])
        exact ⟨_, s1, [], [], e2, R2, upd_same, .nil, Nat.le_refl _, h1⟩
      · have Dm : D ∈ w2.h := by rw [eH.h]; exact List.mem_cons_self
        by_cases hlt : i < xs.length
        · have hd : xs.drop i = xs[i] :: xs.drop (i + 1) := List.drop_eq_getElem_cons hlt
          rw [hd] at hF
          unfold lcL at hF
          by_cases st : stands cc al s2
          · rw [if_pos st] at hF
            obtain ⟨_, hy⟩ := r1 w2 Hc s2 eH.pre eH.s R2 st
            obtain ⟨hgo, hyl⟩ := hy i xs[i] (List.getElem?_eq_getElem hlt)
            refine .inr ⟨hgo, fun H' => (m - 1) + (i + 1) = xs.length ∧ ∃ w2 s2 vs ds, ExtH D w1 H1 w2 H' ∧ Rel K w2 H' s2 ∧ H' D = some (.lst vs) ∧ RvL K w2.r (w2.G H') vs ds ∧ ds.length ≤ i + 1 ∧
              Fin K w1 H1 (Rv K) Q (WE W σ) ((lcL g tt te { e with sl := wipeE e.sl ws } cc al (xs.drop (i + 1)) s2).bind fun ys s3 => Pm.newL c (ds ++ ys) s3), fun H' hH => ⟨m - 1, by omega, hH⟩, fun v H' hv => ?_⟩
            obtain ⟨Ry, xy, rv⟩ := hyl v H' hv
            have eH := eH.trans xy (fun a ha => by cases ha)
            have R2 := Ry
            have hD2 : H' D = some (.lst vs) := by rw [xy.k D Dm (by simp)]; exact hD2
            have l2 := l2.ext xy
            cases he : g xs[i] { e with sl := wipeE e.sl ws } s2 with
            | none => rw [he] at hF; exact hF.elim
            | some e1 =>
              rw [he] at hF
              simp only at hF
              have E2 : RelE K p w2 H' { e with sl := wipeE e.sl ws } (L2.wipe σ ws) := (E1.ext' eH.s eH.pre fun a ha => ⟨by rw [eH.h]; exact List.mem_cons_of_mem _ ha, eH.k a ha⟩).wipe ws hw
              refine ⟨w2, _, s2, xs[i], e1, R2, E2, rv, he, fun σ2 Es hw2 => ⟨by rw [hw2 ws hs, wipe_wipe], w2, e1, s2, R2, Es, ?_⟩⟩
              cases ht : tt e1 s2 with
              | stuck => rw [ht] at hF; exact hF.elim
              | exc C fs s3 => rw [ht] at hF; exact hF.elim
              | ok b s3 =>
                rw [ht] at hF
                simp only [Pm.R.calm, Pm.R.bind] at hF
                intro w3 H3 b' x3 R3 hb
                cases hb
                cases b with
                | false =>
                  simp only [Bool.false_eq_true, if_false] at hF ⊢
                  exact ⟨by omega, w3, s3, vs, ds, eH.trans x3 (fun a ha => by cases ha), R3, by rw [x3.k D Dm (by simp)]; exact hD2, l2.ext x3, by omega, hF⟩
                | true =>
                  simp only [if_true] at hF ⊢
                  refine ⟨w3, e1, s3, R3, Es.ext x3, ?_⟩
                  cases hu : te e1 s3 with
                  | stuck => rw [hu] at hF; exact hF.elim
                  | exc C fs s4 => rw [hu] at hF; exact hF.elim
                  | ok y s4 =>
                    rw [hu] at hF
                    simp only [Pm.R.calm, Pm.R.bind] at hF
                    intro w4 H4 v4 x4 R4 r4
                    have e24 : ExtH D w1 H1 w4 H4 := (eH.trans x3 (fun a ha => by cases ha)).trans x4 (fun a ha => by cases ha)
                    have Dm4 : D ∈ w4.h := by rw [e24.h]; exact List.mem_cons_self
                    have hD4 : H4 D = some (.lst vs) := by rw [x4.k D (by rw [x3.h]; exact Dm) (by simp), x3.k D Dm (by simp)]; exact hD2
                    obtain ⟨R5, e5, g5⟩ := R4.updH Dm4 (.lst (vs ++ [v4]))
                    refine ⟨vs, hD4, by rw [l2.len]; exact most_lt (Nat.lt_of_le_of_lt hi (Nat.lt_of_lt_of_le hlt hl)), by omega, w4, s4, vs ++ [v4], ds ++ [y], e24.trans e5 (fun a ha => List.mem_singleton.mp ha), R5, upd_same, ?_, by simp; omega, ?_⟩
                    · rw [g5]
                      exact ((l2.ext x3).ext x4).app (.cons r4 .nil)
                    · rw [← bind_cons]; exact hF
          · rw [if_neg st] at hF; exact hF.elim
        · have hie : i = xs.length := by omega
          have hd : xs.drop i = [] := List.drop_eq_nil_of_le (by omega)
          rw [hd] at hF
          unfold lcL at hF
          by_cases st : stands cc al s2
          · rw [if_pos st] at hF
            obtain ⟨hst, _⟩ := r1 w2 Hc s2 eH.pre eH.s R2 st
            refine .inl ⟨by rw [hie]; exact hst, ?_⟩
            simp only [Pm.R.bind, List.append_nil] at hF
            cases c with
            | false =>
              obtain ⟨R4, e4, g4, d4⟩ := R2.unhide eH
              exact hF _ _ _ e4 R4 (.lst (d4.trans hD2) (l2.mono g4 (Pre.refl _)))
            | true =>
              obtain ⟨R4, e4⟩ := R2.unhideC eH hD2 (.lst l2)
              refine hF _ _ _ e4 R4 (.cell ?_)
              show (w2.r ++ [D])[s2.length]? = some D
              rw [← R2.len]; simp
          · rw [if_neg st] at hF; exact hF.elim
    · exact h1.elim⟩
/-- the list behind a walked thing -/
theorem cell_walk {r : List Addr} {G : Hp} {w0 : Wd} {H0 : Hp} {s0 : Sto} (R0 : Rel K w0 H0 s0) {v : V} {d : Dx} (h : Rv K w0.r (w0.G H0) v d) {xs : List Dx} {c : Option Nat} (e : Pm.cellOf s0 d = some (xs, c)) :
    ∃ a, v = .ref a ∧ (∃ vs, SqL K H0 a vs) ∧ ∀ w H s, Pre w0.r w.r → Same (w0.G H0) (w.G H) → Rel K w H s → stands c xs s → ∃ vs, SqL K H a vs ∧ RvL K w.r (w.G H) vs xs := by
  cases h with
  | lst h l =>
    cases e
    exact ⟨_, rfl, ⟨_, SqL.of (hid_some h).2⟩, fun w H s pr sm R st => ⟨_, SqL.of (hid_some (sm _ _ h)).2, l.mono sm pr⟩⟩
  | fro h l =>
    cases e
    exact ⟨_, rfl, ⟨_, seqL_same hid_same h⟩, fun w H s pr sm R st => ⟨_, seqL_same (Same.trans sm hid_same) h, l.mono sm pr⟩⟩
  | cell h =>
    simp only [Pm.cellOf] at e
    split at e
    · rename_i ys hs
      cases e
      obtain ⟨o, h1, h2⟩ := R0.at_ h hs
      cases h2 with
      | lst l =>
        refine ⟨_, rfl, ⟨_, SqL.of h1⟩, fun w H s pr sm R st => ?_⟩
        obtain ⟨o, h3, h4⟩ := R.at_ (pr _ _ h) st
        cases h4 with
        | lst l => exact ⟨_, SqL.of h3, l⟩
    · cases e
  | _ => cases e
theorem enum_at : ∀ (xs : List Dx) (n i : Nat) (d : Dx), (enumL n xs)[i]? = some d → ∃ x, xs[i]? = some x ∧ d = .tup [.int ((n + i : Nat) : Int), x]
  | [], _, _, _, h => by simp [enumL] at h
  | x :: xs, n, 0, d, h => by
    simp only [enumL, List.getElem?_cons_zero, Option.some.injEq] at h
    exact ⟨x, rfl, h.symm⟩
  | x :: xs, n, i + 1, d, h => by
    simp only [enumL, List.getElem?_cons_succ] at h ⊢
    obtain ⟨y, h1, h2⟩ := enum_at xs (n + 1) i d h
    exact ⟨y, h1, by rw [h2, show n + 1 + i = n + (i + 1) from by omega]⟩
theorem enum_len : ∀ (xs : List Dx) (n : Nat), (enumL n xs).length = xs.length
  | [], _ => rfl
  | _ :: xs, n => congrArg (· + 1) (enum_len xs (n + 1))
theorem i_xEnum {ma : ME} : ∀ σ H Q, cX K p W (xEnum ma) σ H Q → iEnum K (tCons (cE K p W ma) tNil) σ H Q := fun σ H Q ⟨w, e, s, R, E, h⟩ =>
  ⟨w, e, s, R, E, Fin.bind h fun x s1 w1 H1 v x1 R1 r1 h1 => by
    split at h1
    · rename_i xs c hq
      obtain ⟨a, rfl, ⟨vs, hv⟩, hw⟩ := cell_walk (r := []) (G := H1) R1 r1 hq
      refine ⟨a, vs, rfl, hv, Fin.now h1 R1 fun w2 H2 s2 pr sm R2 st => ?_⟩
      obtain ⟨us, h2, l2⟩ := hw w2 H2 s2 pr sm R2 st
      refine ⟨⟨us, h2, by rw [l2.len, enum_len]; exact Nat.le_refl _⟩, fun i d hd => ?_⟩
      obtain ⟨y, hy, rfl⟩ := enum_at _ _ _ _ hd
      obtain ⟨u, hu, ru⟩ := l2.at_ hy
      refine ⟨⟨us, u, h2, hu⟩, fun v H' hyl => ?_⟩
      obtain ⟨T, x', rfl, hT, rfl, hx⟩ := hyl
      have := hx us h2
      rw [hu] at this
      cases this
      obtain ⟨R3, e3, g3⟩ := R2.new hT (.tup [.int (i : Nat), u])
      refine ⟨R3, e3, .tup (SqT.of g3) (.cons ?_ (.cons (ru.ext e3) .nil))⟩
      rw [Nat.zero_add]
      exact .int _
    · exact h1.elim⟩
theorem zip_at : ∀ (xs ys : List Dx) (i : Nat) (d : Dx), (zipL xs ys)[i]? = some d → ∃ x y, xs[i]? = some x ∧ ys[i]? = some y ∧ d = .tup [x, y]
  | x :: xs, y :: ys, 0, d, h => by
    simp only [zipL, List.getElem?_cons_zero, Option.some.injEq] at h
    exact ⟨x, y, rfl, rfl, h.symm⟩
  | x :: xs, y :: ys, i + 1, d, h => by
    simp only [zipL, List.getElem?_cons_succ] at h ⊢
    exact zip_at xs ys i d h
  | [], _, _, _, h => by simp [zipL] at h
  | _ :: _, [], _, _, h => by simp [zipL] at h
theorem zip_len : ∀ (xs ys : List Dx), xs.length ≤ (zipL xs ys).length ∨ ys.length ≤ (zipL xs ys).length
  | [], _ => .inl (Nat.le_refl _)
  | _ :: _, [] => .inr (Nat.le_refl _)
  | _ :: xs, _ :: ys => by
    simp only [zipL, List.length_cons]
    rcases zip_len xs ys with h | h
    · exact .inl (by omega)
    · exact .inr (by omega)
theorem zip_rel {w1 : Wd} {H1 : Hp} {s1 : Sto} {a b : Addr} {xs ys al : List Dx} {c : Option Nat}
    (hw : ∀ w H s, Pre w1.r w.r → Same (w1.G H1) (w.G H) → Rel K w H s → stands c al s → ∃ vs, SqL K H a vs ∧ RvL K w.r (w.G H) vs xs)
    (hw' : ∀ w H s, Pre w1.r w.r → Same (w1.G H1) (w.G H) → Rel K w H s → stands c al s → ∃ vs, SqL K H b vs ∧ RvL K w.r (w.G H) vs ys) : relX K w1.r (w1.G H1) (Itz K a b) (zipL xs ys, c, al) := fun w2 H2 s2 pr sm R2 st => by
  obtain ⟨us, h2, l2⟩ := hw w2 H2 s2 pr sm R2 st
  obtain ⟨us', h3, l3⟩ := hw' w2 H2 s2 pr sm R2 st
  refine ⟨⟨us, us', h2, h3, by rw [l2.len, l3.len]; exact zip_len xs ys⟩, fun i d hd => ?_⟩
  obtain ⟨x, y, hx, hy, rfl⟩ := zip_at _ _ _ _ hd
  obtain ⟨u, hu, ru⟩ := l2.at_ hx
  obtain ⟨u', hu', ru'⟩ := l3.at_ hy
  refine ⟨⟨us, us', u, u', h2, h3, hu, hu'⟩, fun v H' hyl => ?_⟩
  obtain ⟨T, x', y', rfl, hT, rfl, q1, q2⟩ := hyl
  have := q1 us h2
  rw [hu] at this
  cases this
  have := q2 us' h3
  rw [hu'] at this
  cases this
  obtain ⟨R3, e3, g3⟩ := R2.new hT (.tup [u, u'])
  exact ⟨R3, e3, .tup (SqT.of g3) (.cons (ru.ext e3) (.cons (ru'.ext e3) .nil))⟩
theorem i_xZip {ma mb : ME} : ∀ σ H Q, cX K p W (xZip ma mb) σ H Q → RZ.iZipA K (tCons (cE K p W ma) (tCons (cE K p W mb) tNil)) σ H Q := fun σ H Q ⟨w, e, s, R, E, h⟩ =>
  ⟨w, e, s, R, E, Fin.bind h fun x s1 w1 H1 v x1 R1 r1 h1 => ⟨w1, e, s1, R1, E.ext x1, Fin.bind h1 fun y s2 w2 H2 v2 x2 R2 r2 h2 => by
    have r1 := r1.ext x2
    split at h2
    · cases r1 with | tup hx lx =>
      cases r2 with | tup hy ly =>
      rename_i xs ys _ _ a vs b us
      refine ⟨a, b, vs, us, rfl, .inr ⟨seqT_same hid_same hx, seqT_same hid_same hy, Fin.now h2 R2 fun w3 H3 s3 pr sm R3 st => ?_⟩⟩
      have hx3 := seqT_same (Same.trans sm hid_same) hx
      have hy3 := seqT_same (Same.trans sm hid_same) hy
      have l2 := lx.mono sm pr
      have l3 := ly.mono sm pr
      refine ⟨⟨vs, us, hx3, hy3, by rw [l2.len, l3.len]; exact zip_len _ _⟩, fun i d hd => ?_⟩
      obtain ⟨x, y, hx, hy, rfl⟩ := zip_at _ _ _ _ hd
      obtain ⟨u, hu, ru⟩ := l2.at_ hx
      obtain ⟨u', hu', ru'⟩ := l3.at_ hy
      refine ⟨⟨vs, us, u, u', hx3, hy3, hu, hu'⟩, fun v H' hyl => ?_⟩
      obtain ⟨T, x', y', rfl, hT, rfl, q1, q2⟩ := hyl
      have := q1 _ hx3
      rw [hu] at this
      cases this
      have := q2 _ hy3
      rw [hu'] at this
      cases this
      obtain ⟨R4, e4, g4⟩ := R3.new hT (.tup [u, u'])
      exact ⟨R4, e4, .tup (SqT.of g4) (.cons (ru.ext e4) (.cons (ru'.ext e4) .nil))⟩
    · split at h2
      · rename_i xs c ys q1 q2
        obtain ⟨a, rfl, ⟨vs, hv⟩, hw⟩ := cell_walk (r := []) (G := H1) R2 r1 q1
        obtain ⟨b, rfl, ⟨us, hu⟩, hw'⟩ := cell_walk (r := []) (G := H1) R2 r2 q2
        exact ⟨a, b, vs, us, rfl, .inl ⟨hv, hu, Fin.now h2 R2 (zip_rel (s1 := s2) hw fun w H s p1 p2 p3 _ => hw' w H s p1 p2 p3 trivial)⟩⟩
      · rename_i xs ys c _ q1 q2
        obtain ⟨a, rfl, ⟨vs, hv⟩, hw⟩ := cell_walk (r := []) (G := H1) R2 r1 q1
        obtain ⟨b, rfl, ⟨us, hu⟩, hw'⟩ := cell_walk (r := []) (G := H1) R2 r2 q2
        exact ⟨a, b, vs, us, rfl, .inl ⟨hv, hu, Fin.now h2 R2 (zip_rel (s1 := s2) (fun w H s p1 p2 p3 _ => hw w H s p1 p2 p3 trivial) hw')⟩⟩
      · exact h2.elim⟩⟩
theorem relI_rngD {top : Int} {n : Nat} {r : List Addr} {G : Hp} : relI K r G (Itc top (-1) n) (rngD top n, none) := fun w H s pr sm R st => by
  refine ⟨by show n ≤ _; simp [rngD], fun i d hd => ?_⟩
  unfold rngD at hd
  rw [List.getElem?_map] at hd
  obtain ⟨c, hc, rfl⟩ := Option.map_eq_some_iff.mp hd
  have hi : i < n := by
    have := (List.getElem?_eq_some_iff.mp hc).1
    simpa using this
  rw [List.getElem?_range hi] at hc
  cases hc
  refine ⟨hi, fun x H' hy => ?_⟩
  obtain ⟨rfl, rfl⟩ := hy
  refine ⟨rfl, ?_⟩
  rw [show top + (i : Int) * -1 = top - i from by omega]
  exact .int _
theorem i_wRngD {ms : MA} : ∀ σ H Q, cI K p W (wRngD ms) σ H Q → iRng3 (cA K p W ms) σ H Q := fun σ H Q ⟨w, e, s, R, E, h⟩ =>
  ⟨w, e, s, R, E, Fin.bind h fun d s1 w1 H1 v x1 R1 r1 h1 => by
    split at h1
    · cases r1 with | cons r1 l =>
      cases l with | cons r2 l =>
      cases l with | cons r3 l =>
      cases l; cases r1; cases r2; cases r3
      split at h1
      · rename_i hc
        obtain ⟨rfl, hc⟩ := hc
        exact ⟨_, _, _, _, rfl, RgC.neg (by omega) (by omega) (by omega) (by omega), Fin.now h1 R1 relI_rngD⟩
      · exact h1.elim
    · exact h1.elim⟩
end
end Ps

/-! # soundness: more comparisons -/
namespace Ps
open PySem PySem.Spec PyProof.Rows L2 Vs He Pm
def rEqE (K : PySem.W.Frag) : R2 := fun x y H Q => ∃ a b xs ys, x = .ref a ∧ y = .ref b ∧ SqL K H a xs ∧ SqL K H b ys ∧ xs.length ≠ ys.length ∧ Q (.bl false) H
def rNeE (K : PySem.W.Frag) : R2 := fun x y H Q => ∃ a b xs ys, x = .ref a ∧ y = .ref b ∧ SqL K H a xs ∧ SqL K H b ys ∧ xs.length ≠ ys.length ∧ Q (.bl true) H
section
variable {X : Cx}
theorem op_eqE (hu : X.A.units + 64 < cLine) : OpR X (compareOp .Eq) (rEqE X.K) := by
  intro pins s σ H x y v u Q I rx ry h
  obtain ⟨a, b, xs, ys, rfl, rfl, ha, hb, hl, q⟩ := h
  cases (show v = Value.ref a from rx)
  cases (show u = Value.ref b from ry)
  obtain ⟨us, r1, p1, _⟩ := I.list ha
  obtain ⟨ws, r2, p2, _⟩ := I.list hb
  have hsz : (us.toArray.size != ws.toArray.size) = true := by
    rw [List.size_toArray, List.size_toArray, ← r1.length, ← r2.length]
    simpa using hl
  exact SeqAt.RcAt.lists_lengths p1.isList p2.isList hsz (by omega) _ _ _ _ ⟨.bl false, H, I, rfl, q⟩
theorem op_neE (hu : X.A.units + 64 < cLine) : OpR X (compareOp .NotEq) (rNeE X.K) := by
  intro pins s σ H x y v u Q I rx ry h
  obtain ⟨a, b, xs, ys, rfl, rfl, ha, hb, hl, q⟩ := h
  cases (show v = Value.ref a from rx)
  cases (show u = Value.ref b from ry)
  obtain ⟨us, r1, p1, _⟩ := I.list ha
  obtain ⟨ws, r2, p2, _⟩ := I.list hb
  have hsz : (us.toArray.size != ws.toArray.size) = true := by
    rw [List.size_toArray, List.size_toArray, ← r1.length, ← r2.length]
    simpa using hl
  exact SeqAt.RcNeAt.lists_lengths p1.isList p2.isList hsz (by omega) _ _ _ _ ⟨.bl true, H, I, rfl, q⟩
theorem om_eqE (hu : X.A.units + 64 < cLine) : OpM X (compareOp .Eq) eqE := by
  obtain ⟨r, hr, sr⟩ := om_eq hu
  refine ⟨_, (op_eqE hu).or hr, ?_⟩
  intro w H s x y d e Q E R hx hy h
  unfold eqE at h
  split at h
  · rename_i xs h1 h2
    obtain ⟨a, vs, rfl, ha, la⟩ := hx.asL R h1
    obtain ⟨b, us, rfl, hb, lb⟩ := hy.asL R h2
    cases lb
    cases xs with
    | nil =>
      refine .inr (sr w H s _ _ d e Q E R hx hy ?_)
      have e1 : Pm.res s d = .lst [] ∨ Pm.res s d = .fro [] := by
        cases d <;> simp [Pm.asL] at h1 <;> try (subst h1; first | exact .inl rfl | exact .inr rfl)
        rename_i n
        split at h1
        · rename_i q; cases h1; left; simp [Pm.res, q]
        · cases h1
      have e2 : Pm.res s e = .lst [] ∨ Pm.res s e = .fro [] := by
        cases e <;> simp [Pm.asL] at h2 <;> try (subst h2; first | exact .inl rfl | exact .inr rfl)
        rename_i n
        split at h2
        · rename_i q; cases h2; left; simp [Pm.res, q]
        · cases h2
      unfold eqD
      rcases e1 with e1 | e1 <;> rcases e2 with e2 | e2 <;> rw [e1, e2] <;> exact h
    | cons x xs =>
      exact .inl ⟨a, b, vs, [], rfl, rfl, ha, hb, by rw [la.len]; simp, Fin.now h R (.bl _)⟩
  · exact .inr (sr w H s x y d e Q E R hx hy h)
theorem om_neE (hu : X.A.units + 64 < cLine) : OpM X (compareOp .NotEq) neE := by
  obtain ⟨r, hr, sr⟩ := om_ne hu
  refine ⟨_, (op_neE hu).or hr, ?_⟩
  intro w H s x y d e Q E R hx hy h
  unfold neE at h
  split at h
  · rename_i xs h1 h2
    obtain ⟨a, vs, rfl, ha, la⟩ := hx.asL R h1
    obtain ⟨b, us, rfl, hb, lb⟩ := hy.asL R h2
    cases lb
    cases xs with
    | nil =>
      refine .inr (sr w H s _ _ d e Q E R hx hy ?_)
      have e1 : Pm.res s d = .lst [] ∨ Pm.res s d = .fro [] := by
        cases d <;> simp [Pm.asL] at h1 <;> try (subst h1; first | exact .inl rfl | exact .inr rfl)
        rename_i n
        split at h1
        · rename_i q; cases h1; left; simp [Pm.res, q]
        · cases h1
      have e2 : Pm.res s e = .lst [] ∨ Pm.res s e = .fro [] := by
        cases e <;> simp [Pm.asL] at h2 <;> try (subst h2; first | exact .inl rfl | exact .inr rfl)
        rename_i n
        split at h2
        · rename_i q; cases h2; left; simp [Pm.res, q]
        · cases h2
      unfold neD
      rcases e1 with e1 | e1 <;> rcases e2 with e2 | e2 <;> rw [e1, e2] <;> exact h
    | cons x xs =>
      exact .inl ⟨a, b, vs, [], rfl, rfl, ha, hb, by rw [la.len]; simp, Fin.now h R (.bl _)⟩
  · exact .inr (sr w H s x y d e Q E R hx hy h)
end
end Ps
namespace Ps
open PySem PySem.Spec PyProof.Rows L2 Vs He Pm
section
variable {K : PySem.W.Frag} {p : Px} {W : WX}
theorem i_hLst {ws : List Nat} {n : Nat} {gs : MGs} : ∀ v σ H Q, cG K p ws (hLst n gs) v σ H Q → gLst K n (cGs K p ws gs) v σ H Q := fun v σ H Q ⟨w, e, s, d, e', R, E, r, q, h⟩ => by
  unfold hLst at q
  split at q
  · rename_i xs hx
    obtain ⟨a, vs, rfl, ha, l⟩ := r.asL R hx
    split at q
    · rename_i hn
      exact ⟨a, vs, rfl, ha, by rw [l.len]; exact hn, w, e, s, xs, e', R, E, l, q, h⟩
    · cases q
  · cases q
end
end Ps

/-! # soundness: lists of ranges -/
namespace Ps
open PySem PySem.Spec PyProof.Rows L2 Vs He Pm
section
variable {K : PySem.W.Frag} {p : Px} {W : WX}
theorem rvL_int {r : List Addr} {G : Hp} (f : Nat → Int) : ∀ l : List Nat, RvL K r G (l.map fun i => V.int (f i)) (l.map fun i => Dx.int (f i))
  | [] => .nil
  | _ :: l => .cons (.int _) (rvL_int f l)
theorem rgV_rng {r : List Addr} {G : Hp} (n : Int) : RvL K r G (rgV 0 n) (rng 0 n.toNat) := by
  unfold rgV rng
  rw [Int.sub_zero]
  exact rvL_int (fun i => 0 + (i : Int)) _
theorem i_listR {c : Bool} {ma : ME} : ∀ σ H Q, cE K p W (eListR c ma) σ H Q → tLstRg (tRg1 (cE K p W ma)) σ H Q := fun σ H Q ⟨w, e, s, R, E, h⟩ =>
  ⟨w, e, s, R, E, Fin.bind h fun d s1 w1 H1 v x1 R1 r1 h1 => by
    split at h1
    · cases r1
      split at h1
      · rename_i j hj
        refine ⟨j, rfl, ⟨by omega, by omega, by omega, by omega, by omega⟩, fun a n => Fin.newL h1 R1 (rgV_rng j) n⟩
      · exact h1.elim
    · exact h1.elim⟩
end
end Ps

/-! # soundness: exceptions that bear a context and those that don't; except without a name, whose suite raises -/
namespace Ps
open PySem PySem.Spec PyProof.Rows L2 Vs He Pm
def Oth (K : PySem.W.Frag) (W : WX) : WX := fun cls d σ H => (∃ C, C ∈ othN ∧ cls = .ref (ga K C)) ∧ W cls d σ H
def OthE (K : PySem.W.Frag) (E : XK) : XK := fun cls d H => (∃ C, C ∈ othN ∧ cls = .ref (ga K C)) ∧ E cls d H
def CXM (K : PySem.W.Frag) (P : Program) (w : World) : CXT := fun outer H s E u s' => L2N.CX P w outer H s E u s' ∨ L2.CX P w outer H s (OthE K E) u s'
/-- any exception without a context is taken, and of these classes with one -/
structure TakesM (X : Cx) (W : WX) : Prop where
  n : L2N.Takes X W
  o : L2.Takes X (Oth X.K W)
section
variable {X : Cx} {W : WX}
theorem skyN {B : Heap} {l : List Env} {a : Addr} {cls : Value} {d : Option Addr} {L : Addr} {h : Heap} (x : Sky B l a (L2N.Zn cls d) L h) : Sky B l a (Zc cls d) L h := by
  rcases x with ⟨h1, h2, h3, oe, vs, h4, h5, h6, h7⟩ | fl | hd
  · exact .inl ⟨h1, h2, h3, oe, vs, h4, h5.zc, h6, h7⟩
  · exact .inr (.inl (L2H.flyingZ_imp (fun o z => z.zc) fl))
  · exact .inr (.inr ⟨hd.1, hd.2.1, hd.2.2.1, L2H.tracedZ_imp (fun o z => z.zc) hd.2.2.2⟩)
theorem TakesM.of (t : L2.Takes X W) : TakesM X W :=
  ⟨fun u s' ⟨a, B, sI, pins, σ, H, cls, d, e, I, nb, up, sky, r⟩ => t u s' ⟨a, B, sI, pins, σ, H, cls, d, e, I, nb, up, skyN sky, r⟩, t.imp fun _ _ _ _ h => h.2⟩
theorem takesM_of {E : XK} (hs : X.stack = X.env :: X.outer) (hf : X.env.frame = some X.env.locals) (hex : X.ex = []) {E₁ : Value → Shared → Prop}
    (hx : X.xe = fun e s' => wpAny (model X.prog X.w) X.A (leaving X.env e) (fun _ s'' => CXM X.K X.prog X.w X.outer X.H_0 X.s_0 E e s'') E₁ s') : TakesM X (fun cls d _ H => E cls d H) :=
  ⟨fun u s' x => by
    rw [hx]
    exact wpAny_mono (L2N.XE.leave (W := fun cls d _ H => E cls d H) (E := E) hs hf hex (fun _ _ _ _ h => h) x) (fun _ _ h => .inl h) (fun _ _ h => h),
   fun u s' x => by
    rw [hx]
    exact wpAny_mono (L2.XE.leave (W := Oth X.K fun cls d _ H => E cls d H) (E := OthE X.K E) hs hf hex (fun _ _ _ _ h => h) x) (fun _ _ h => .inr h) (fun _ _ h => h)⟩
theorem passM (tk : TakesM X W) (σ : L2.St) : PassesAt (CXM X.K X.prog X.w) X σ (WE W σ) := fun _ _ _ e s' I c =>
  c.elim (fun c => tk.n e s' (L2N.XE.of_call I (fun _ _ _ h => h) c)) fun c => tk.o e s' (L2.XE.of_call I (fun _ _ _ h => h) c)
end
section
variable {X : Cx} {p : Px} {W : WX}
theorem qs_raiseM {C : String} {e : Expr} {pos : Pos} (m : inX C = true) (hc : X.calm = true) (tk : TakesM X W) (he : L2N.PMk X e (fun _ H Q => Q (.ref (ga X.K C)) none H)) : PS X (.Raise (some e) none pos) (cS X.K p W (sRaise C)) := imS (i_raise m) (L2N.ps_raise hc tk.n he)
end
section
variable {K : PySem.W.Frag} {p : Px} {W : WX}
theorem i_raiseOM {C f : String} {j n : Nat} {dv : List Dx} {us : List V} {ms : MA} (m : inX C = true) (hO : C ∈ othN) (k : RvC K us dv) : ∀ D σ H, cS K p W (sRaiseO C f j n dv ms) D σ H → tMkO (ga K C) (spX K C f j n) us (cA K p W ms) σ H fun cls d H' => Oth K W cls d σ H' := fun D σ H ⟨w, e, s, R, E, h⟩ =>
  ⟨w, e, s, R, E, FinS.bind E h fun ds s1 w1 H1 vs x1 R1 r1 h1 => by
    split at h1
    · rename_i hl
      split at h1
      · rename_i d hd
        split at h1
        · rename_i hj
          refine ⟨by rw [r1.len]; exact hl.1, fun a ha => ?_⟩
          have l2 : RvL K w1.r (w1.G H1) (vs ++ us) (ds ++ dv) := r1.app (k _ _)
          obtain ⟨j, rfl⟩ : ∃ i, j = i + 1 := ⟨j - 1, by omega⟩
          rw [List.getElem?_cons_succ] at hd
          obtain ⟨r, hr, rr⟩ := l2.at_ hd
          refine ⟨by rw [List.length_cons, l2.len]; exact hl.2, a, vs ++ us, r, rfl, by rw [List.getElem?_cons_succ]; exact hr, upd_same, fun b hb ne => ?_⟩
          have hb1 : H1 b = none := by rw [upd_ne ne] at hb; exact hb
          refine ⟨rfl, b, _, upd_same, by rw [upd_ne ne, upd_same], hb1, ?_⟩
          have eH : upd (L2.del (upd (upd (upd H1 a (exo a (ga K C) none)) b (exd b [(Str.ofString f, r)])) a (exo a (ga K C) (some b))) a) b (.xd [(Str.ofString f, r)]) = upd H1 b (.xd [(Str.ofString f, r)]) := by
            funext c
            by_cases q : c = b
            · subst q; rw [upd_same, upd_same]
            · rw [upd_ne q, upd_ne q]
              unfold L2.del
              by_cases q2 : c = a
              · rw [if_pos q2, q2, ha]
              · rw [if_neg q2, upd_ne q2, upd_ne q, upd_ne q2]
          rw [eH]
          obtain ⟨R2, e2, g2⟩ := R1.new hb1 (.xd [(Str.ofString f, r)])
          exact ⟨⟨C, hO, rfl⟩, h1 w1 _ σ (some b) e2.weak R2 ((E.ext x1).ext e2) m (.own g2 (.cons (rr.ext e2) .nil))⟩
        · exact h1.elim
      · exact h1.elim
    · exact h1.elim⟩
end
section
variable {X : Cx} {p : Px} {W : WX}
theorem qs_raiseOM {C f : String} {j n : Nat} {dv : List Dx} {us : List V} {ms : MA} {e : Expr} {pos : Pos} (m : inX C = true) (hO : C ∈ othN) (k : RvC X.K us dv) (hc : X.calm = true) (tk : TakesM X W) (he : PMk X e (tMkO (ga X.K C) (spX X.K C f j n) us (cA X.K p W ms))) : PS X (.Raise (some e) none pos) (cS X.K p W (sRaiseO C f j n dv ms)) := imS (i_raiseOM m hO k) (ps_raise hc tk.o he)
end
/-! ## the clause's test -/
/-- what the clause names, asked of an exception's class -/
def HT (X : Cx) (t : Expr) (cs : List Value) : Prop := ∀ (a : Addr) (oe : Obj) (pn pins : List (Addr × Obj)) (σ : L2.St) (H : Hp) (s : Shared) (cls : Value) (b : Bool), Inv (X.suite a ((a, oe) :: pn)) pins σ H s → PySem.W.Looks (model X.prog X.w) s.heap (typeOf (.ref a)) cls → PySem.W.exmAny X.K cls cs = some b →
  ∀ {Q : Bool → Shared → Prop} {E : Value → Shared → Prop}, (∀ h', (∀ b o, s.heap.get? b = some o → h'.get? b = some o) → Q b { s with heap := h' }) → wpAny (model X.prog X.w) (X.A.mark (some (.ref a))) (eval t X.env) (fun c s1 => wpAny (model X.prog X.w) (X.A.mark (some (.ref a))) (excMatches (.ref a) c) Q E s1) E s
section
variable {X : Cx}
theorem ld_name {x : Str} {c : Value} {np : Pos} {a : Addr} {oe : Obj} {pn pins : List (Addr × Obj)} {σ : L2.St} {H : Hp} {s : Shared} (hc : Names X x c) (S : Inv (X.suite a ((a, oe) :: pn)) pins σ H s) {Q : Value → Shared → Prop} {E : Value → Shared → Prop} (q : Q c s) :
    wpAny (model X.prog X.w) (X.A.mark (some (.ref a))) (eval (.Name x np) X.env) Q E s := by
  obtain ⟨hg, hdbg, hm | ⟨hm, hv, hnn⟩⟩ := hc
  · exact ld_glob (X := X.suite a ((a, oe) :: pn)) S hg hm q hdbg
  · exact ld_blt (X := X.suite a ((a, oe) :: pn)) S hg hm hv q hnn hdbg
theorem ht_one {x : Str} {c : Value} {np : Pos} (n : Names X x c) : HT X (.Name x np) [c] := fun a oe pn pins σ H s cls b I LT he Q E q => by
  obtain ⟨b1, d1, h1, h2, h3⟩ := PySem.W.exmAny_cons he
  have hd : d1 = false := by
    have : some false = some d1 := h2
    cases this; rfl
  subst hd
  rw [Bool.or_false] at h3
  subst h3
  exact ld_name n I ((PySem.W.exm_one (M := model X.prog X.w) I.kIn LT h1).here (q s.heap fun _ _ z => z))
theorem ht_three {x1 x2 x3 : Str} {c1 c2 c3 : Value} {p1 p2 p3 tpos : Pos} {kk : Nat} (n1 : Names X x1 c1) (n2 : Names X x2 c2) (n3 : Names X x3 c3) : HT X (.Tuple [.Name x1 p1, .Name x2 p2, .Name x3 p3] kk tpos) [c1, c2, c3] := fun a oe pn pins σ H s cls b I LT he Q E q => by
  refine wpAny_Tuple ?_
  refine wpAny_items_cons (ld_name n1 I ?_)
  refine wpAny_items_cons (ld_name n2 I ?_)
  refine wpAny_items_cons (ld_name n3 I ?_)
  refine wpAny_items_nil ⟨by size_fits, ?_⟩
  have kp : ∀ q o, s.heap.get? q = some o → (s.heap.push { cls := .type "tuple", data := .seq [c1, c2, c3].toArray }).get? q = some o := fun _ _ z => Heap.get?_push_of_some _ z
  exact (PySem.W.exm_tup3 (M := model X.prog X.w) (I.kIn.keeps kp) (LT.keeps kp) (Heap.get?_push_size s.heap rfl) he).here (q _ kp)
end
theorem flyingK {B : Heap} {l : List Env} {a : Addr} {Z : Obj → Prop} {h h' : Heap} (fl : HandSPX.FlyingZ B l a Z h) (k : ∀ b o, h.get? b = some o → h'.get? b = some o) : HandSPX.FlyingZ B l a Z h' := by
  obtain ⟨h1, h2, h3, oe, vs, T, oT, ts, t1, t2, t3, t4, t5, t6, t7, t8, t9⟩ := fl
  exact ⟨fun b o e => k b o (h1 b o e), h2, Heap.FunFrames.of_keeps (fun b o e _ => ⟨o, k b o e, rfl⟩) h3, oe, vs, T, oT, ts, k _ _ t1, t2, t3, t4, t5, t6, k _ _ t7, t8, t9⟩
/-- what the clause wishes -/
def wMt (K : PySem.W.Frag) (cs : List Value) (ts : Addr → Value → Option Addr → TS) (Wout : WX) (D : Ends) : WX := fun cls d σ H => ∃ b, PySem.W.exmAny K cls cs = some b ∧ (b = true → ∀ a, H a = none → ts a cls d D σ H) ∧ (b = false → Wout cls d σ H)
section
variable {X : Cx} {t : Expr} {cs : List Value} {body suite : List Stmt} {b₀ : Stmt} {pos pos' : Pos} {tb : WX → TS} {ts : Addr → Value → Option Addr → TS} {Wout : WX}
theorem ps_try_M (hs : X.stack = X.env :: X.outer) (hf : X.env.frame = some X.env.locals) (ht : HT X t cs) (hm : ∀ C, C ∈ othN → PySem.W.exmAny X.K (.ref (ga X.K C)) cs = some false)
    (hpa : ∀ hd : Option Value, PassesOwnAt (model X.prog X.w) (X.A.mark hd) X.A X.env X.xe) (tk : L2.Takes X Wout)
    (hb : ∀ (W : WX) (pn : List (Addr × Obj)) (xe : Value → Shared → Prop), TakesM (X.tr pn xe) W → PassesOwn (model X.prog X.w) X.A X.env xe → PSs (X.tr pn xe) body (tb W))
    (hsu : ∀ (a : Addr) (oe : Obj) (cls : Value) (d : Option Addr) (pn : List (Addr × Obj)), L2N.Zn cls d oe → (∃ vs, oe.data = .fields vs) → L2.Takes (L2H.suiteX X a ((a, oe) :: pn)) Wout → L2H.HotC (L2H.suiteX X a ((a, oe) :: pn)) →
      PSs (L2H.suiteX X a ((a, oe) :: pn)) (b₀ :: suite) (ts a cls d)) :
    PS X (.Try body [.ExceptHandler (some t) none (b₀ :: suite) pos'] [] [] pos) (fun D σ H => tb (wMt X.K cs ts Wout D) D σ H) := by
  refine ⟨fun pins s σ H D I h => ?_⟩
  have ok := I.ok
  have hfr : X.A.frames = some (X.env :: X.outer) := by rw [ok.frames, hs]
  have notFr : ∀ {B h : Heap} {a : Addr} {o : Obj} {vs : Array Value}, h.FunFrames B (X.env :: X.outer) → h.get? a = some o → o.data = .fields vs → a ∉ frs (X.env :: X.outer) := fun {B h a o vs} ff e dd hm => by
    obtain ⟨_, o', e', hnf⟩ := ff.mem hm
    rw [e] at e'; cases e'
    exact hnf _ dd
  have flyOn : ∀ {a : Addr} {B : Heap} {sI s' : Shared} {σ' : L2.St} {H' : Hp} {cls : Value} {d : Option Addr} {h3 : Heap}, Inv X pins σ' H' sI → (∀ b o, sI.heap.get? b = some o → b ∉ frs X.stack → B.get? b = some o) → sI.heap.UpToSlots h3 →
      HandSPX.FlyingZ B (X.env :: X.outer) a (Zc cls d) h3 → H' a = none → s'.os = sI.os → AllBare s'.gens → Wout cls d σ' H' → wpAny (model X.prog X.w) X.A (handleBy (.ref a) X.env []) (SP X pins D) X.xe { s' with heap := h3 } := by
    intro a B sI s' σ' H' cls d h3 J nb up fl3 na os ag w
    refine wpAny_handleBy_nil ?_
    obtain ⟨k1, k2, k3, oe, vs, T, oT, ts', he, hz, hd, h1, hr⟩ := id fl3
    unfold PySem.passOn
    refine wpAny_bind (wpAny_field he hd h1 ?_)
    rw [if_neg (show ¬ ((Value.ref T == Value.none) = true) from by simp)]
    have fin : wpAny (model X.prog X.w) X.A (setFlight (.ref a) X.env.frame) (fun _ s4 => wpAny (model X.prog X.w) X.A (throw (.ref a) : Sem Flow) (SP X pins D) X.xe s4) X.xe { s' with heap := h3 } := by
      rw [hf]
      refine HandSPX.setFlight_upZ fl3 fun h4 hh4 up4 => wpAny_throw (tk _ _ ?_)
      exact ⟨a, B, sI, pins, σ', H', cls, d, rfl, J, nb, up.trans up4, .inr (.inr (by rw [hs]; exact hh4)), na, os, ag, w⟩
    first
      | exact wpAny_bind (wpAny_pure (wpAny_bind fin))
      | exact wpAny_bind fin
  refine wpAny_Try_except ?_
  refine wpAny_mono ((hb (wMt X.K cs ts Wout D) (X.pn ++ pins) (fun e s₁ => wpAny (model X.prog X.w) X.A (noteFrame e X.env) (fun _ s₂ => wpAny (model X.prog X.w) X.A (setFlight e none) (fun _ s₃ =>
    wpAny (model X.prog X.w) X.A (handleBy e X.env [.ExceptHandler (some t) none (b₀ :: suite) pos']) (SP X pins D) X.xe s₃) X.xe s₂) X.xe s₁) ⟨fun u s' xx => ?_, fun u s' xx => ?_⟩ PassesOwn.looking).run [] s σ H D (I.toTry _) h) (fun f s1 hsp => ?_) (fun e s1 he => he)
  · -- an exception whose context is None
    obtain ⟨a, B, sI, pins', σ', H', cls, d, rfl, J', nb, up, sky, na, os, ag, b, hb1, hyes, hno⟩ := xx
    have J : Inv X pins σ' H' sI := J'.ofTry ok
    have sky' : Sky B (X.env :: X.outer) a (L2N.Zn cls d) X.env.locals s'.heap := by rw [← hs]; exact sky
    show wpAny (model X.prog X.w) X.A (noteFrame (.ref a) X.env) _ _ _
    refine L2N.Sky.land L2N.Zn.steady hfr hf sky' fun h3 fl3 up3 => ?_
    have J3 : Inv X pins σ' H' { s' with heap := h3 } := J.landed nb fl3.1 (up.trans up3) os ag
    obtain ⟨oe3, vs3, he3, hz3, hd3⟩ := fl3.there
    have nfr : a ∉ frs (X.env :: X.outer) := notFr fl3.2.2.1 he3 hd3
    have nL : a ≠ X.env.locals := fun z => nfr (List.mem_filterMap.mpr ⟨X.env, List.mem_cons_self, by rw [hf, z]⟩)
    have nF : a ∉ X.fs := fun hm => by
      obtain ⟨e, he, q⟩ := List.mem_filterMap.mp hm
      exact nfr (List.mem_filterMap.mpr ⟨e, List.mem_cons_of_mem _ he, q⟩)
    have S3 := J3.suite he3 hd3 na nL nF
    refine wpAny_handleBy_cons (codeAny_handlers_test ?_) (by intro q; cases q)
    have LT : PySem.W.Looks (model X.prog X.w) h3 (typeOf (.ref a)) cls := fun A Q E s k q => wpAny_typeOf_ref (k _ _ he3) (by rw [hz3.1]; exact q)
    refine ht a oe3 _ _ _ _ _ cls b S3 LT hb1 fun h5 k5 => ?_
    have fl5 := flyingK fl3 k5
    have up5 : h3.UpToSlots h5 := Heap.UpToSlots.of_keeps k5
    cases b with
    | true =>
      refine codeAny_handlers_suite ?_
      refine HandSPX.lands_againZ fl5 fun h4 fl4 up4 => ?_
      have J4 : Inv X pins σ' H' { s' with heap := h4 } := J.landed nb fl4.1 (((up.trans up3).trans up5).trans up4) os ag
      obtain ⟨oe4, vs4, he4, hz4, hd4⟩ := fl4.there
      have S4 := J4.suite he4 hd4 na nL nF
      have tkS : L2.Takes (L2H.suiteX X a ((a, oe4) :: (X.pn ++ pins))) Wout := fun u2 s2 x2 => by
        obtain ⟨a2, B2, sI2, pn2, σ2, H2, cls2, d2, e2, I2, nb2, up2, sky2, na2, os2, ag2, w2⟩ := x2
        exact tk u2 s2 ⟨a2, B2, sI2, pins, σ2, H2, cls2, d2, e2, L2H.unsuiteX I2 ok, nb2, up2, sky2, na2, os2, ag2, w2⟩
      have hot : L2H.HotC (L2H.suiteX X a ((a, oe4) :: (X.pn ++ pins))) := ⟨(a, oe4), ⟨rfl, vs4, hd4, hz4.2.2 vs4 hd4⟩, List.mem_cons_self⟩
      refine wpAny_mono ((hsu a oe4 cls d (X.pn ++ pins) hz4 ⟨_, hd4⟩ tkS hot).run [] _ _ H' _ (L2H.suiteX_of S4) (hyes rfl a na)) (fun f s6 hsp => ?_) (fun e6 s6 z => hpa (some (.ref a)) e6 s6 z)
      cases f with
      | next =>
        obtain ⟨σ6, H6, S6, q6⟩ := hsp
        exact ⟨_, _, L2H.unsuiteX S6 ok, q6⟩
      | brk =>
        obtain ⟨σ6, H6, S6, q6⟩ := hsp
        exact ⟨_, _, L2H.unsuiteX S6 ok, q6⟩
      | cont =>
        obtain ⟨σ6, H6, S6, q6⟩ := hsp
        exact ⟨_, _, L2H.unsuiteX S6 ok, q6⟩
      | ret u =>
        obtain ⟨v6, σ6, H6, S6, r6, q6⟩ := hsp
        exact ⟨_, _, _, L2H.unsuiteX S6 ok, r6, q6⟩
    | false =>
      show wpAny _ X.A (handleBy (.ref a) X.env []) _ _ _
      exact flyOn (s' := s') J nb ((up.trans up3).trans up5) (L2H.flyingZ_imp (fun o z => z.zc) fl5) na os ag (hno rfl)
  · -- one that may bear a context: the clause doesn't name it
    obtain ⟨a, B, sI, pins', σ', H', cls, d, rfl, J', nb, up, sky, na, os, ag, ⟨C, hC, rfl⟩, b, hb1, hyes, hno⟩ := xx
    have hbf : b = false := by
      have q := hm C hC
      have q2 : PySem.W.exmAny X.K (.ref (ga X.K C)) cs = some b := hb1
      rw [q] at q2
      cases q2; rfl
    subst hbf
    have J : Inv X pins σ' H' sI := J'.ofTry ok
    have sky' : Sky B (X.env :: X.outer) a (Zc (.ref (ga X.K C)) d) X.env.locals s'.heap := by rw [← hs]; exact sky
    show wpAny (model X.prog X.w) X.A (noteFrame (.ref a) X.env) _ _ _
    refine L2.Sky.land Zc.steady hfr hf sky' fun h3 fl3 up3 => ?_
    have J3 : Inv X pins σ' H' { s' with heap := h3 } := J.landed nb fl3.1 (up.trans up3) os ag
    obtain ⟨oe3, vs3, he3, hz3, hd3⟩ := fl3.there
    have nfr : a ∉ frs (X.env :: X.outer) := notFr fl3.2.2.1 he3 hd3
    have nL : a ≠ X.env.locals := fun z => nfr (List.mem_filterMap.mpr ⟨X.env, List.mem_cons_self, by rw [hf, z]⟩)
    have nF : a ∉ X.fs := fun hm => by
      obtain ⟨e, he, q⟩ := List.mem_filterMap.mp hm
      exact nfr (List.mem_filterMap.mpr ⟨e, List.mem_cons_of_mem _ he, q⟩)
    have S3 := J3.suite he3 hd3 na nL nF
    refine wpAny_handleBy_cons (codeAny_handlers_test ?_) (by intro q; cases q)
    have LT : PySem.W.Looks (model X.prog X.w) h3 (typeOf (.ref a)) (.ref (ga X.K C)) := fun A Q E s k q => wpAny_typeOf_ref (k _ _ he3) (by rw [hz3.1]; exact q)
    refine ht a oe3 _ _ _ _ _ _ false S3 LT (hm C hC) fun h5 k5 => ?_
    show wpAny _ X.A (handleBy (.ref a) X.env []) _ _ _
    exact flyOn (s' := s') J nb ((up.trans up3).trans (Heap.UpToSlots.of_keeps k5)) (flyingK fl3 k5) na os ag (hno rfl)
  · cases f with
    | next =>
      obtain ⟨σ', H', J', q⟩ := hsp
      exact wpAny_execs_nil ⟨σ', H', J'.ofTry ok, q⟩
    | brk =>
      obtain ⟨σ', H', J', q⟩ := hsp
      exact ⟨σ', H', J'.ofTry ok, q⟩
    | cont =>
      obtain ⟨σ', H', J', q⟩ := hsp
      exact ⟨σ', H', J'.ofTry ok, q⟩
    | ret u =>
      obtain ⟨v, σ', H', J', r, q⟩ := hsp
      exact ⟨v, σ', H', J'.ofTry ok, r, q⟩
end
/-! ## the suite: raise C(..) from None -/
section
variable {P : Program} {w : World} {K : PySem.W.Frag} {mg : Str → Option Value} {base : Heap} {x qual : Str} {params : Arguments} {body : List Stmt} {scope : Scope} {dvs : List V} {kws : List (Str × V)} {f : Addr} {fd : FuncData}
/-- a def while an exception is handled -/
theorem FunD.okH {CX : CXT} {N ps : List Str} {k : Nat} {sp : Sp} (F : FunD K x qual params body scope dvs kws f fd) (S : FnScope N ps scope) (len : ∀ vs H Q E, sp vs H Q E → vs.length = ps.length)
    (hbody : ∀ (cdv : Value) (A : Around) (outer : List Env) (s : Shared) (H : Hp) (vs : List V) (Q : VK) (E : XK) (p : Addr × Obj), L2H.Hot1 A p → L2H.RoomH k (A.deeper (envOfC qual scope s.heap.objs.size f cdv)) → sp vs H Q E →
      ∃ t, PSs (L2H.cxH CX P w K mg base N qual scope f cdv A outer s H E p) body t ∧ t { nx := fun _ H' => Q .non H', rt := Q } (L2.start N vs) H) : L2H.FnH P w K mg base CX (k + 1) f fd ps sp := by
  obtain ⟨oc, od, dV, kV, doc, pm, an, cdv, ct, osl, rfl, lk, hcd, _, _⟩ := F.ex
  exact L2H.fn_ofH lk hcd S len fun A outer s H vs Q E p hot hr hsp => hbody cdv A outer s H vs Q E p hot hr hsp
end
open L2H in
/-- C(e, ..) with defaults, while an exception is handled -/
theorem pmk5_oexD {X : Cx} {CX : CXT} {x : Str} {e : Expr} {es : List Expr} {ta : TA} {p pos : Pos} {C fI : Addr} {k : Nat} {fd : FuncData} {ps : List Str} {sp : Sp} {ds : List Value} {dvs : List V} (T : OexC X.K C) (iC : PySem.W.findIn X.K (.ref C) "__init__" = some (some (.ref fI))) (tI : PySem.W.typeIn X.K (.ref fI) = some (.type "function"))
    (F1 : FnH X.prog X.w X.K X.mg X.base CX k fI fd ps sp) (hr : RoomH (k + 1) X.A) (hc : HotC X) (hb : Binds X.K fd ps ds) (hd : Vals dvs ds) (hx : Passes CX X (fun _ _ _ => False)) (hg : Gl X x) (hm : X.mg x = some (.ref C)) (ha : PA X (e :: es) ta)
    (hdb : (x == ("__debug__" : Str)) = false := by decide) (he : starEach (e :: es) X.env = (false, eval e X.env) :: starEach es X.env := by rfl) (hpl : (backTo pos (starEach es X.env)).any (·.1) = false := by rfl) :
    PMk5 X (.Call (.Name x p) (e :: es) [] pos) (tMkO C sp dvs ta) := by
  intro pins s σ H Q I h
  obtain ⟨nm, q, N, bs, bm, sn, sub, ab, col, dd, k0, k1, k2, k3, k5, hC, hbm⟩ := T.cls
  obtain ⟨pn, hot, hpn⟩ := hc
  refine wpAny_Call_Name_kw (ld_glob I hg hm ?_ hdb)
  refine PySem.W.callWith_K (h₀ := X.base) I.ok.mod.kin T.kC (thn (ha.run pos pins s σ H _ I h) fun us s1 ⟨vs, H1, I1, r1, hz, q1⟩ => ⟨I1.kIn, ?_⟩) he hpl
  show wpAny _ _ (call (.ref C) us) _ _ _
  obtain ⟨hp, g, dr, tk, os⟩ := s1
  have hsz : hp.objs.size ≤ hp.objs.size + 1 := Nat.le_succ _
  have hn : H1 (hp.objs.size + 1) = none := I1.hok.fresh hsz
  have hq := q1 (hp.objs.size + 1) hn
  have kk : ∀ b o, hp.get? b = some o → ((hp.push (PySem.W.kdv_tup us)).push (PySem.HandSPX.excO C hp.objs.size)).get? b = some o := fun b o e => Heap.get?_push_of_some _ (Heap.get?_push_of_some _ e)
  have hget : ((hp.push (PySem.W.kdv_tup us)).push (PySem.HandSPX.excO C hp.objs.size)).get? (hp.objs.size + 1) = some (PySem.HandSPX.excO C hp.objs.size) := by heap_get
  have I2 : Inv X pins σ (upd H1 (hp.objs.size + 1) (exo (hp.objs.size + 1) C none)) ⟨(hp.push (PySem.W.kdv_tup us)).push (PySem.HandSPX.excO C hp.objs.size), g, dr, tk, os⟩ :=
    I1.laid (t' := tk) (a := hp.objs.size + 1) (o := exo (hp.objs.size + 1) C none) (h' := (hp.push (PySem.W.kdv_tup us)).push (PySem.HandSPX.excO C hp.objs.size)) kk hsz (exo_ok hget)
  have r2 : Vals (V.ref (hp.objs.size + 1) :: vs) (Value.ref (hp.objs.size + 1) :: us) := .cons rfl r1
  have r3 : Vals (V.ref (hp.objs.size + 1) :: (vs ++ dvs)) (Value.ref (hp.objs.size + 1) :: (us ++ ds)) := .cons rfl (r1.append hd)
  have hl : (Value.ref (hp.objs.size + 1) :: us ++ ds).length = ps.length := by
    have e := r3.length
    rw [F1.len _ _ _ _ hq] at e
    exact e.symm
  have hus : us.length ≤ sizeLine := by
    rw [← Paired.length r1, sizeLine_eq]
    omega
  have b2 := hb _ (Value.ref (hp.objs.size + 1) :: us) I2.kIn hl
  have P1 := I2.pin pn (List.mem_append_left _ hpn)
  have hpin : PinOk X.stack (upd H1 (hp.objs.size + 1) (exo (hp.objs.size + 1) C none)) ⟨(hp.push (PySem.W.kdv_tup us)).push (PySem.HandSPX.excO C hp.objs.size), g, dr, tk, os⟩ pn :=
    ⟨P1.1, P1.2.1, fun hmm => (List.mem_cons.mp (I2.stkSub pn.1 hmm)).elim P1.2.2.1 P1.2.2.2.1, P1.2.2.2.2⟩
  refine wpAny_call (PySem.HandSPX.call_own F.excBase_ValueError (fun Y => PySem.HandSPX.refsVE_contains Y bm hbm) (I1.kIn _ _ hC) (PySem.W.looks_findIn I1.kIn iC) (fun self => PySem.W.bind_fn I1.kIn self tI) hus
    (codeAny_mono (F1.run _ X.stack _ _ ⟨Value.ref (hp.objs.size + 1) :: us, []⟩ (Value.ref (hp.objs.size + 1) :: (us ++ ds)) _ _ (fun _ _ _ => False) pn (hr.make C us []) ⟨hot.1, hot.2⟩ hpin (I2.env0.make C us []) b2 r3 hq) fun r s' hq' => ?_))
  cases r with
  | error er => exact hx pins σ _ _ er s' I2 hq'
  | ok fl =>
    cases fl with
    | ret u =>
      obtain ⟨v, H2, os2, bare2, un2, hok2, rv, ev, d, fs, ea, ed, hd1, q2⟩ := hq'
      subst ev
      obtain ⟨h2, g2, d2, t2, os'⟩ := s'
      obtain ⟨t0, G, J, kG, ge, hoe, na⟩ := mk_end0 (d2 := d2) (t2 := t2) I1 hsz kk un2 hok2 os2 bare2 ea ed hd1
      refine ⟨rv, ⟨hp.objs.size + 1, _, _, ⟨G, g2, d2, t2, os'⟩, _, .ref C, some d, rfl, J, kG, ge, hoe, ⟨rfl, rfl, fun vs hv => ?_⟩, rfl, rfl, na, rfl, bare2, raises_own T.exC T.tyC, q2⟩, fun a oe vs ea2 hg2 hd2 => ?_⟩
      · cases hv
        rfl
      · cases ea2
        have hg3 : h2.get? (hp.objs.size + 1) = some oe := hg2
        rw [hoe] at hg3
        cases hg3
        cases hd2
        show (4 : Nat) < 6
        decide
    | next => exact False.elim hq'
    | brk => exact False.elim hq'
    | cont => exact False.elim hq'
section
variable {X : Cx} {p : Px} {W : WX}
theorem qs_raiseHN {C f : String} {j n l : Nat} {dv : List Dx} {us : List V} {ms : MA} {e : Expr} {cpos pos : Pos} (m : inX C = true) (k : RvC X.K us dv) (hc : L2H.HotC X) (tk : L2.Takes X W) (he : L2H.PMk5 X e (tMkO (ga X.K C) (spX X.K C f j n) us (cA X.K p W ms))) : PS X (.Raise (some e) (some (.Constant .none l cpos)) pos) (cS X.K p W (sRaiseO C f j n dv ms)) := imS (i_raiseO m k) (L2H.ps_raiseHN hc tk he)
end
section
variable {K : PySem.W.Frag} {p : Px} {W : WX}
theorem exmAny_subs (hx : Xc K) {C : String} (hC : inX C = true) : ∀ Xs : List String, Xs.all inX = true → PySem.W.exmAny K (.ref (ga K C)) (Xs.map fun X : String => Value.ref (ga K X)) = some (Xs.any fun X => isSubX C X)
  | [], _ => rfl
  | X :: Xs, m => by
    rw [List.all_cons, Bool.and_eq_true] at m
    have ih := exmAny_subs hx hC Xs m.2
    rw [List.map_cons]
    unfold PySem.W.exmAny
    rw [(hx.sub hC m.1).2, ih]
    rfl
theorem i_tryR (hx : Xc K) {Xs : List String} {mb ms : MS} (m : Xs.all inX = true) : ∀ D σ H, cS K p W (sTryR mb Xs ms) D σ H → cS K p (wMt K (Xs.map fun X : String => Value.ref (ga K X)) (fun _ _ _ => cS K p W ms) W D) mb D σ H := fun D σ H ⟨w, e, s, R, E, h⟩ => by
  refine ⟨w, e, s, R, E, ?_⟩
  unfold sTryR at h
  cases hr : mb e s with
  | nx e1 s1 => rw [hr] at h; exact h
  | rt v s1 => rw [hr] at h; exact h
  | bk e1 s1 => rw [hr] at h; exact h
  | ct e1 s1 => rw [hr] at h; exact h
  | stuck => rw [hr] at h; exact h
  | exc C fs e1 s1 =>
    rw [hr] at h
    simp only at h
    intro w1 H1 σ1 dx x1 R1 E1 hC rx
    refine ⟨Xs.any fun X => isSubX C X, exmAny_subs hx hC Xs m, fun hs a ha => ?_, fun hs => ?_⟩
    · rw [if_pos hs] at h
      refine ⟨w1, e1, s1, R1, E1, ?_⟩
      cases hm : ms e1 s1 with
      | nx e2 s2 => rw [hm] at h; exact fun w2 H2 σ2 x2 R2 E2 => h w2 H2 _ (x1.trans x2) R2 E2
      | bk e2 s2 => rw [hm] at h; exact fun w2 H2 σ2 x2 R2 E2 => h w2 H2 _ (x1.trans x2) R2 E2
      | ct e2 s2 => rw [hm] at h; exact fun w2 H2 σ2 x2 R2 E2 => h w2 H2 _ (x1.trans x2) R2 E2
      | rt v s2 => rw [hm] at h; exact fun w2 H2 v2 x2 R2 r2 => h w2 H2 v2 (x1.trans x2) R2 r2
      | exc C' fs' e2 s2 => rw [hm] at h; exact fun w2 H2 σ2 dx2 x2 R2 E2 hC2 rx2 => h w2 H2 _ dx2 (x1.trans x2) R2 E2 hC2 rx2
      | stuck => rw [hm] at h; exact h.elim
    · rw [if_neg (by rw [hs]; exact nofun)] at h
      exact h w1 H1 σ1 dx x1 R1 E1 hC rx
end
section
variable {X : Cx} {p : Px} {W : WX}
theorem qs_tryR (hx : Xc X.K) {Xs : List String} {t : Expr} {body suite : List Stmt} {b₀ : Stmt} {pos pos' : Pos} {mb ms : MS} (m : Xs.all inX = true) (mo : othN.all (fun C => inX C && !(Xs.any fun X => isSubX C X)) = true)
    (hs : X.stack = X.env :: X.outer) (hf : X.env.frame = some X.env.locals) (ht : HT X t (Xs.map fun Y : String => Value.ref (ga X.K Y)))
    (hpa : ∀ hd : Option Value, PassesOwnAt (model X.prog X.w) (X.A.mark hd) X.A X.env X.xe) (tk : L2.Takes X W)
    (hb : ∀ (W : WX) (pn : List (Addr × Obj)) (xe : Value → Shared → Prop), TakesM (X.tr pn xe) W → PassesOwn (model X.prog X.w) X.A X.env xe → PSs (X.tr pn xe) body (cS X.K p W mb))
    (hsu : ∀ (a : Addr) (oe : Obj) (pn : List (Addr × Obj)), L2.Takes (L2H.suiteX X a ((a, oe) :: pn)) W → L2H.HotC (L2H.suiteX X a ((a, oe) :: pn)) → PSs (L2H.suiteX X a ((a, oe) :: pn)) (b₀ :: suite) (cS X.K p W ms)) :
    PS X (.Try body [.ExceptHandler (some t) none (b₀ :: suite) pos'] [] [] pos) (cS X.K p W (sTryR mb Xs ms)) :=
  imS (i_tryR hx m) (ps_try_M hs hf ht (fun C hC => by
    have q := List.all_eq_true.mp mo C hC
    rw [Bool.and_eq_true] at q
    rw [exmAny_subs hx q.1 Xs m]
    have q2 := q.2
    cases hq : Xs.any fun X => isSubX C X with
    | false => rfl
    | true => rw [hq] at q2; cases q2) hpa tk hb fun a oe _ _ pn _ _ tk hot => hsu a oe pn tk hot)
end
end Ps

/-! # soundness: texts cut and read as numbers; a def called by a name that holds it -/
namespace Ps
open PySem PySem.Spec PyProof.Rows L2 Vs He Pm
theorem splT_spl (S : Tx) : ∀ (l : Tx) (k : Nat) (acc : Tx), splT S k acc l = TL.spl S k acc l
  | [], k, acc => by cases k <;> rfl
  | c :: r, 0, acc => by
    unfold splT TL.spl TL.pre
    rw [splT_spl S r, splT_spl S r]
  | c :: r, k + 1, acc => by
    unfold splT TL.spl
    exact splT_spl S r k acc
theorem okT_spl (S : Tx) : ∀ (l : Tx) (k : Nat) (acc : Tx), okT l → okT acc → ∀ z ∈ splT S k acc l, okT z
  | [], k, acc, _, h2, z, hz => by
    have hz : z ∈ [acc] := by cases k <;> exact hz
    rw [List.mem_singleton.mp hz]; exact h2
  | c :: r, 0, acc, h1, h2, z, hz => by
    have hr : okT r := fun q hq => h1 q (List.mem_cons_of_mem _ hq)
    unfold splT at hz
    split at hz
    · rcases List.mem_cons.mp hz with rfl | hz
      · exact h2
      · exact okT_spl S r _ [] hr (fun q hq => by cases hq) z hz
    · exact okT_spl S r 0 (acc ++ [c]) hr (okT_app h2 fun q hq => by rw [List.mem_singleton.mp hq]; exact h1 c List.mem_cons_self) z hz
  | c :: r, k + 1, acc, h1, h2, z, hz => okT_spl S r k acc (fun q hq => h1 q (List.mem_cons_of_mem _ hq)) h2 z (by unfold splT at hz; exact hz)
theorem split_tS {a b : Tx} (hb : b ≠ []) (hk : (b.all fun c => decide (c < 256)) = true) : Txt.split (tS a) (tS b) = (splT b 0 [] a).map tS := by
  rw [splT_spl]
  exact SX.split_S hb hk
theorem starts_tS (a b : Tx) : Txt.startswith (tS a) (tS b) = (a.take b.length == b) := by
  unfold Txt.startswith Builtin.Str.subAt
  have e1 : (tS a).length = a.length := tS_len a
  have e2 : (tS b).length = b.length := tS_len b
  rw [e1, e2]
  have e3 : ((tS a).cps.extract 0 (0 + b.length) == (tS b).cps) = (a.take b.length == b) := by
    rw [Bool.eq_iff_iff, beq_iff_eq, beq_iff_eq]
    constructor
    · intro h
      have := congrArg Array.toList h
      simpa [tS] using this
    · intro h
      apply Array.toList_inj.mp
      simpa [tS] using h
  rw [e3]
  by_cases h : b.length ≤ a.length
  · simp [h]
  · have : (a.take b.length == b) = false := by
      rw [beq_eq_false_iff_ne]
      intro q
      have := congrArg List.length q
      rw [List.length_take] at this
      omega
    simp [this]
theorem figs_all {z : Tx} (h : figs z = true) : z ≠ [] ∧ NumText.AllDigits z := by
  unfold figs at h
  rw [Bool.and_eq_true] at h
  refine ⟨fun e => by rw [e] at h; exact absurd h.1 (by decide), fun c hc => ?_⟩
  have := List.all_eq_true.mp h.2 c hc
  rw [Bool.and_eq_true, decide_eq_true_eq, decide_eq_true_eq] at this
  exact this
theorem intOf_tS {z : Tx} {i : Int} (h : intOf z = some i) (hl : z.length ≤ 640) : intText? (tS z) = some i := by
  have el : (tS z).length ≤ 4300 := by rw [tS_len]; omega
  unfold intOf at h
  split at h
  · rename_i hf
    cases h
    obtain ⟨h1, h2⟩ := figs_all hf
    exact PySem.intText_digits (x := tS z) h2 h1 el
  · split at h
    · rename_i r _
      split at h
      · rename_i hf
        cases h
        obtain ⟨h1, h2⟩ := figs_all hf
        exact PySem.intText_neg (x := tS (45 :: r)) (cs := r) rfl h2 h1 el
      · cases h
    · cases h
section
variable {X : Cx}
theorem cm_intT : CallM X (.type "int") intT := by
  refine ⟨_, call_int_str, ?_⟩
  intro w H s xs ds Q E R hx h
  unfold intT at h
  split at h
  · cases hx with | cons hx l =>
    cases l
    cases hx with
    | str hz =>
    split at h
    · rename_i hl
      split at h
      · rename_i z i hi
        exact ⟨_, i, rfl, intOf_tS hi hl, by rw [tS_len]; exact hl, Fin.now h R (.int _)⟩
      · exact h.elim
    · exact h.elim
  · exact h.elim
end
section
variable {K : PySem.W.Frag} {p : Px} {W : WX}
theorem i_split {c : Bool} {ma mb : ME} : ∀ σ H Q, cE K p W (eSplit c ma mb) σ H Q → tM1 (fun x xs H Q => ∃ a b, x = .str a ∧ xs = [.str b] ∧ (b.length == 0) = false ∧ a.length + 2 ≤ sizeLine ∧ rNewStrs (Txt.split a b) H Q) (cE K p W ma) (cE K p W mb) σ H Q := fun σ H Q ⟨w, e, s, R, E, h⟩ =>
  ⟨w, e, s, R, E, Fin.bind h fun x s1 w1 H1 v x1 R1 r1 h1 => by
    split at h1
    · cases r1 with
      | str hz =>
      refine ⟨⟨_, rfl⟩, w1, e, s1, R1, E.ext x1, Fin.bind h1 fun d2 s2 w2 H2 v2 x2 R2 r2 h2 => ?_⟩
      split at h2
      · cases r2 with
        | str ht =>
        split at h2
        · rename_i z _ t hc
          obtain ⟨c1, c2, c3⟩ := hc
          refine ⟨_, _, rfl, rfl, ?_, ?_, fun q n => ?_⟩
          · rw [tS_len]
            cases t with
            | nil => exact absurd rfl c1
            | cons _ _ => rfl
          · rw [tS_len]
            have : z.length ≤ 1000000 := c3
            have e : sizeLine = 16777216 := sizeLine_eq
            omega
          · rw [split_tS c1 c2, List.map_map]
            exact Fin.newL h2 R2 (RvL.strs (okT_spl t z 0 [] hz (fun q hq => by cases hq))) n
        · exact h2.elim
      · exact h2.elim
    · exact h1.elim⟩
theorem i_starts {ma mb : ME} : ∀ σ H Q, cE K p W (eStarts ma mb) σ H Q → tM1 (fun x xs H Q => ∃ a b, x = .str a ∧ xs = [.str b] ∧ Q (.bl (Txt.startswith a b)) H) (cE K p W ma) (cE K p W mb) σ H Q := fun σ H Q ⟨w, e, s, R, E, h⟩ =>
  ⟨w, e, s, R, E, Fin.bind h fun x s1 w1 H1 v x1 R1 r1 h1 => by
    split at h1
    · cases r1 with
      | str hz =>
      refine ⟨⟨_, rfl⟩, w1, e, s1, R1, E.ext x1, Fin.bind h1 fun d2 s2 w2 H2 v2 x2 R2 r2 h2 => ?_⟩
      split at h2
      · cases r2 with
        | str ht =>
        exact ⟨_, _, rfl, rfl, by rw [starts_tS]; exact Fin.now h2 R2 (.bl _)⟩
      · exact h2.elim
    · exact h1.elim⟩
/-- what slot i holds is called -/
def tCallLS (i : Nat) (f : Addr) (sp : Sp) (us : List V) (E : L2.St → XK) (t : TA) : TE := fun σ H Q => σ[i]? = some (some (.ref f)) ∧ t σ H fun vs H1 => sp (vs ++ us) H1 Q (E σ)
theorem i_callV {x : String} {f : MF} {dv : List Dx} {us : List V} {i : Nat} {ms : MA} {rest : ME} (k : RvC K us dv) : ∀ σ H Q, cE K p W (eCallV x f dv i ms rest) σ H Q → tCallLS i (ga K x) (spM K f) us (WE W) (cA K p W ms) σ H Q ∨ cE K p W rest σ H Q := fun σ H Q ⟨w, e, s, R, E, h⟩ => by
  unfold eCallV at h
  split at h
  · rename_i y hy
    split at h
    · rename_i hxy
      subst hxy
      obtain ⟨v, hv, rv⟩ := E.sl i _ hy
      cases rv
      exact .inl ⟨hv, w, e, s, R, E, Fin.bind h fun d s1 w1 H1 v x1 R1 r1 h1 => ⟨w1, _, s1, R1, r1.app (k _ _), h1⟩⟩
    · exact .inr ⟨w, e, s, R, E, h⟩
  · exact h.elim
end
section
variable {X : Cx} {p : Px} {W : WX}
theorem pe_callLS {CX : CXT} {k i : Nat} {f : Addr} {fd : FuncData} {ps : List Str} {sp : Sp} {us : List V} {ds : List Value} {E : L2.St → XK} {x : Str} {q pos : Pos} {e : Expr} {es : List Expr} {t : TA} (F : FnOk X.prog X.w X.K X.mg X.base CX k f fd ps sp) (hr : Room k X.A) (hN : X.N[i]? = some x) (hv : Vis X.env.scope x)
    (hk : PySem.W.keepIn X.K (.ref f) = true) (hb : Binds X.K fd ps ds) (hd : Vals us ds) (hx : ∀ σ, PassesAt CX X σ (E σ)) (ha : PA X (e :: es) t)
    (hdb : (x == ("__debug__" : Str)) = false := by decide) (hcd : (x == ("__classdict__" : Str)) = false := by decide)
    (he : starEach (e :: es) X.env = (false, eval e X.env) :: starEach es X.env := by rfl) (hpl : (backTo pos (starEach es X.env)).any (·.1) = false := by rfl) : PE X (.Call (.Name x q) (e :: es) [] pos) (tCallLS i f sp us E t) := by
  refine ⟨fun pins s σ H Q I h => ?_⟩
  obtain ⟨hs, ht⟩ := h
  refine wpAny_Call_Name_kw (thn ((pe_var (pos := q) hN hv hdb hcd).run pins s σ H (fun v H1 => v = .ref f ∧ H1 = H) I ⟨.ref f, hs, rfl, rfl⟩) fun u s1 ⟨v, H1, I1, r1, q1⟩ => ?_)
  obtain ⟨rfl, rfl⟩ := q1
  cases r1
  refine PySem.W.callWith_K (h₀ := X.base) I.ok.mod.kin hk (thn (ha.run pos pins s1 σ _ _ I1 ht) fun us s2 ⟨vs, H2, I2, r, q⟩ => ⟨I2.kIn, ?_⟩) he hpl
  exact run_fnSD F hr hb hd (hx σ) I2 r q
theorem qe_callV {x : String} {f : MF} {dv : List Dx} {us : List V} {i : Nat} {ms : MA} {rest : ME} {e : Expr} (k : RvC X.K us dv) (h1 : PE X e (tCallLS i (ga X.K x) (spM X.K f) us (WE W) (cA X.K p W ms))) (h2 : PE X e (cE X.K p W rest)) : PE X e (cE X.K p W (eCallV x f dv i ms rest)) :=
  ⟨fun pins s σ H Q I h => (i_callV k σ H Q h).elim (h1.run pins s σ H Q I) (h2.run pins s σ H Q I)⟩
theorem qe_none {e : Expr} : PE X e (cE X.K p W eNone) := ⟨fun pins s σ H Q I ⟨w, e, s', R, E, h⟩ => h.elim⟩
end
end Ps
namespace Pm
/-! ## figures -/
theorem txI_num (n : Nat) : txI (n : Int) = TL.numL n := by
  have e := TL.tl_num n
  rw [← e]
  unfold txI
  show tx (toString ((n : Nat) : Int)) = (PySem.Str.ofString (toString ((n : Nat) : Int))).cps.toList
  have h := Ps.tS_tx (toString ((n : Nat) : Int))
  rw [h]
  simp [Ps.tS]
theorem numT_val (z : Tx) : numT z = PySem.NumText.digitsVal z := rfl
end Pm

/-! # soundness: texts replaced (a token must be out), upper -/
namespace Ps
open PySem PySem.Spec PyProof.Rows L2 Vs He Pm
theorem glued_one (z x : Str) : Builtin.Str.glued z [x] = x := by rw [StrLaws.glued_eq_join]; rfl
theorem repl_tS {x y z : Tx} (hb : y ≠ []) (hk : (y.all fun c => decide (c < 256)) = true) : Txt.replace (tS x) (tS y) (tS z) = tS (joinT z (splT y 0 [] x)) := by
  have e := split_tS (a := x) hb hk
  have j := joinT_eq z (splT y 0 [] x)
  rw [← e] at j
  rw [← j]
  have hy : ((tS y).length == 0) = false := by
    rw [tS_len]
    cases y with
    | nil => exact absurd rfl hb
    | cons _ _ => rfl
  have kd := TL.kind_ok (x := tS x) (SX.all256 (b := y) hk)
  unfold Txt.replace
  rw [hy, Bool.false_and, Bool.or_false]
  show _ = Builtin.Str.glued (tS z) (Txt.split (tS x) (tS y))
  cases he : (Builtin.Str.occurrences (tS x) (tS y) 0 (tS x).length ((tS x).length + 1)).isEmpty
  · rw [if_neg Bool.false_ne_true]
    have hl : ¬ (tS x).length < (tS y).length := by
      intro hlt
      obtain ⟨f, h⟩ := StrLaws.occ_chain (tS x) (tS y) ((tS x).length + 1)
      cases ho : Builtin.Str.occurrences (tS x) (tS y) 0 (tS x).length ((tS x).length + 1) with
      | nil => rw [ho] at he; exact absurd he (by simp)
      | cons i r =>
        rw [ho] at h
        have := h.2.1.1
        omega
    unfold Txt.split
    have hc : ¬ (decide ((tS x).length < (tS y).length) || decide (Builtin.Str.strKind (tS x) < Builtin.Str.strKind (tS y))) = true := by
      rw [Bool.or_eq_true, decide_eq_true_eq, decide_eq_true_eq]
      exact fun q => q.elim hl kd
    rw [if_neg hc, he, if_neg Bool.false_ne_true]
  · rw [if_pos rfl]
    unfold Txt.split
    split
    · exact (glued_one _ _).symm
    · exact (glued_one _ _).symm
theorem up1_eq : PyProof.Rows.up1 = Pm.up1 := rfl
theorem upper_tS {z : Tx} (h : (z.all fun c => decide (c < 128)) = true) : Txt.upper (tS z) = tS (z.map Pm.up1) := by
  have := SX.upper_S (a := z) h
  rw [up1_eq] at this
  exact this
theorem okT_up {z : Tx} (h : okT z) : okT (z.map Pm.up1) := fun c hc => by
  obtain ⟨q, hq, rfl⟩ := List.mem_map.mp hc
  have := h q hq
  unfold Pm.up1
  split <;> omega
/-! ## tokens -/
def PEG (X : Cx) (e : Expr) (t : TE) : Prop :=
  ∀ (pins : List (Addr × Obj)) (s : Shared) (σ : L2.St) (H : Hp) (Q : VK), Inv X pins σ H s → t σ H Q → wpAny (model X.prog X.w) X.A (eval e X.env) (fun v s1 => 1 ≤ s1.toks ∧ EP X pins σ Q v s1) X.xe s
def PAG (X : Cx) (es : List Expr) (t : TA) : Prop :=
  ∀ (pos : Pos) (pins : List (Addr × Obj)) (s : Shared) (σ : L2.St) (H : Hp) (Q : List V → Hp → Prop), Inv X pins σ H s → t σ H Q → wpAny (model X.prog X.w) X.A (spliced (backTo pos (starEach es X.env))) (fun v s1 => 1 ≤ s1.toks ∧ AP X pins σ Q v s1) X.xe s
def PSG (X : Cx) (st : Stmt) (t : TS) : Prop :=
  ∀ (pins : List (Addr × Obj)) (s : Shared) (σ : L2.St) (H : Hp) (D : Ends), Inv X pins σ H s → t D σ H → wpAny (model X.prog X.w) X.A (exec st X.env) (fun f s1 => (f = .next → 1 ≤ s1.toks) ∧ SP X pins D f s1) X.xe s
section
variable {X : Cx} {e f : Expr} {es : List Expr} {te tf u : TE} {ta : TA} {pos : Pos}
theorem imET (i : ∀ σ H Q, u σ H Q → te σ H Q) (h : PET X e te) : PET X e u := fun pins s σ H Q h0 I q => h pins s σ H Q h0 I (i σ H Q q)
theorem imEG (i : ∀ σ H Q, u σ H Q → te σ H Q) (h : PEG X e te) : PEG X e u := fun pins s σ H Q I q => h pins s σ H Q I (i σ H Q q)
theorem imAT {tb : TA} (i : ∀ σ H Q, tb σ H Q → ta σ H Q) (h : PAT X es ta) : PAT X es tb := fun pos pins s σ H Q h0 I q => h pos pins s σ H Q h0 I (i σ H Q q)
theorem imAG {tb : TA} (i : ∀ σ H Q, tb σ H Q → ta σ H Q) (h : PAG X es ta) : PAG X es tb := fun pos pins s σ H Q I q => h pos pins s σ H Q I (i σ H Q q)
theorem imST {st : Stmt} {t v : TS} (i : ∀ D σ H, v D σ H → t D σ H) (h : PST X st t) : PST X st v := fun pins s σ H D h0 I q => h pins s σ H D h0 I (i D σ H q)
theorem imSG {st : Stmt} {t v : TS} (i : ∀ D σ H, v D σ H → t D σ H) (h : PSG X st t) : PSG X st v := fun pins s σ H D I q => h pins s σ H D I (i D σ H q)
theorem imSsT {st : List Stmt} {t v : TS} (i : ∀ D σ H, v D σ H → t D σ H) (h : PSsT X st t) : PSsT X st v := fun pins s σ H D h0 I q => h pins s σ H D h0 I (i D σ H q)
theorem pet_of (h : PE X e te) : PET X e te := fun pins s σ H Q _ I q => h.run pins s σ H Q I q
theorem pat_of (h : PA X es ta) : PAT X es ta := fun pos pins s σ H Q _ I q => h.run pos pins s σ H Q I q
theorem peg_str {x : Str} {j : Nat} {p : Pos} : PEG X (.Constant (.str x) j p) (tC (.str x)) := fun pins s σ H Q I h =>
  Calls.Constant_str ⟨Nat.le_add_left .., .str x, H, I.tok _, ⟨s.toks, rfl⟩, h⟩
theorem peg_opL {op : Operator} {r : R2} (ho : OpR X (binaryOp op) r) (ha : PEG X e te) (hb : PE X f tf) : PEG X (.BinOp e op f pos) (tOp r te tf) := by
  intro pins s σ H Q I h
  refine wpAny_BinOp (thn (ha pins s σ H _ I h) fun v s1 q => ?_)
  obtain ⟨h1, x, H1, I1, r1, q1⟩ := q
  refine wpAny_mono (PySem.wpAny_toks (hb.run pins s1 σ H1 _ I1 q1)) (fun v2 s2 q => ?_) fun _ _ z => z.2
  obtain ⟨hk, y, H2, I2, r2, q2⟩ := q
  refine wpAny_mono (PySem.wpAny_toks (ho pins s2 σ H2 x y v v2 Q I2 r1 r2 q2)) (fun v3 s3 q => ?_) fun _ _ z => z.2
  exact ⟨Nat.le_trans (Nat.le_trans h1 hk) q.1, q.2⟩
theorem peg_opR {op : Operator} {r : R2} (ho : OpR X (binaryOp op) r) (ha : PE X e te) (hb : PEG X f tf) : PEG X (.BinOp e op f pos) (tOp r te tf) := by
  intro pins s σ H Q I h
  refine wpAny_BinOp (thn (ha.run pins s σ H _ I h) fun v s1 q => ?_)
  obtain ⟨x, H1, I1, r1, q1⟩ := q
  refine thn (hb pins s1 σ H1 _ I1 q1) fun v2 s2 q => ?_
  obtain ⟨hk, y, H2, I2, r2, q2⟩ := q
  refine wpAny_mono (PySem.wpAny_toks (ho pins s2 σ H2 x y v v2 Q I2 r1 r2 q2)) (fun v3 s3 q => ?_) fun _ _ z => z.2
  exact ⟨Nat.le_trans hk q.1, q.2⟩
theorem pag_here (ha : PEG X e te) (hr : PA X es ta) (hs : starEach (e :: es) X.env = (false, eval e X.env) :: starEach es X.env := by rfl) : PAG X (e :: es) (tCons te ta) := by
  intro pos pins s σ H Q I h
  rw [hs]
  show wpAny _ _ (spliced ((false, eval e X.env) :: backTo pos (starEach es X.env))) _ _ s
  refine Calls.spliced_cons (thn (ha pins s σ H _ I h) fun v s1 q => ?_)
  obtain ⟨h1, x, H1, I1, r1, q1⟩ := q
  refine wpAny_mono (PySem.wpAny_toks (hr.run pos pins s1 σ H1 _ I1 q1)) (fun us s2 q => ?_) fun _ _ z => z.2
  obtain ⟨hk, xs, H2, I2, r2, q2⟩ := q
  exact ⟨Nat.le_trans h1 hk, x :: xs, H2, I2, .cons r1 r2, q2⟩
theorem pag_skip (ha : PE X e te) (hr : PAG X es ta) (hs : starEach (e :: es) X.env = (false, eval e X.env) :: starEach es X.env := by rfl) : PAG X (e :: es) (tCons te ta) := by
  intro pos pins s σ H Q I h
  rw [hs]
  show wpAny _ _ (spliced ((false, eval e X.env) :: backTo pos (starEach es X.env))) _ _ s
  refine Calls.spliced_cons (thn (ha.run pins s σ H _ I h) fun v s1 q => ?_)
  obtain ⟨x, H1, I1, r1, q1⟩ := q
  refine thn (hr pos pins s1 σ H1 _ I1 q1) fun us s2 q => ?_
  obtain ⟨hk, xs, H2, I2, r2, q2⟩ := q
  exact ⟨hk, x :: xs, H2, I2, .cons r1 r2, q2⟩
/-- behind an item that gives one a token is out -/
theorem pa_tok (ha : PEG X e te) (hr : PAT X es ta) (hs : starEach (e :: es) X.env = (false, eval e X.env) :: starEach es X.env := by rfl) : PA X (e :: es) (tCons te ta) := by
  refine ⟨fun pos pins s σ H Q I h => ?_⟩
  rw [hs]
  show wpAny _ _ (spliced ((false, eval e X.env) :: backTo pos (starEach es X.env))) _ _ s
  refine Calls.spliced_cons (thn (ha pins s σ H _ I h) fun v s1 q => ?_)
  obtain ⟨h1, x, H1, I1, r1, q1⟩ := q
  exact thn (hr pos pins s1 σ H1 _ h1 I1 q1) fun us s2 ⟨xs, H2, I2, r2, q2⟩ => ⟨x :: xs, H2, I2, .cons r1 r2, q2⟩
theorem peg_lst (h : PAG X es ta) : PEG X (.List es pos) (tLst ta) := by
  intro pins s σ H Q I hq
  refine wpAny_List_spliced (thn (h pos pins s σ H _ I hq) fun us s1 ⟨hk, xs, H1, I1, r, z, q⟩ => ⟨by rw [← r.length]; exact z, ?_⟩)
  have hf : H1 s1.heap.objs.size = none := I1.hok.fresh (Nat.le_refl _)
  refine ⟨hk, .ref s1.heap.objs.size, upd H1 s1.heap.objs.size (.lst xs), I1.laid (t' := s1.toks) (fun b u e => Heap.get?_push_of_some _ e) (Nat.le_refl _) ?_, rfl, q _ hf⟩
  exact ⟨z, us, 0, r, Heap.get?_push_size _ rfl⟩
theorem pst_set {i : Nat} {x : Str} {pos' : Pos} (hN : X.N.Nodup) (hi : X.N[i]? = some x) (hx : Loc X.env.scope x) (he : PET X e te) (hs : swapsWith e (some (.Name x pos')) pos.line X.env = pure false := by rfl) (hf : X.fn x = true ∨ X.env.scope.names.lookup x = some .local := by first | exact .inl rfl | exact .inr rfl | assumption) :
    PST X (.Assign [.Name x pos'] e pos) (tAsg te (gName i)) := by
  intro pins s σ H D h0 I h
  refine wpAny_Assign_Name (thn (he pins s σ H _ h0 I h) fun v s1 ⟨y, H1, I1, r1, q1⟩ => ?_) hs
  exact store_ok I1 hN hi hx r1 (fun s2 I2 => ⟨_, H1, I2, q1⟩) hf
theorem psg_set {i : Nat} {x : Str} {pos' : Pos} (hN : X.N.Nodup) (hi : X.N[i]? = some x) (hx : Loc X.env.scope x) (he : PEG X e te) (hs : swapsWith e (some (.Name x pos')) pos.line X.env = pure false := by rfl) (hf : X.fn x = true ∨ X.env.scope.names.lookup x = some .local := by first | exact .inl rfl | exact .inr rfl | assumption) :
    PSG X (.Assign [.Name x pos'] e pos) (tAsg te (gName i)) := by
  intro pins s σ H D I h
  refine wpAny_Assign_Name (thn (he pins s σ H _ I h) fun v s1 ⟨hk, y, H1, I1, r1, q1⟩ => ?_) hs
  refine wpAny_mono (PySem.wpAny_toks (store_ok (Q := fun _ s2 => Inv X pins (σ.set i (some y)) H1 s2) I1 hN hi hx r1 (fun s2 I2 => I2) hf)) (fun _ s2 q => ?_) fun _ _ z => z.2
  exact ⟨fun _ => Nat.le_trans hk q.1, _, H1, q.2, q1⟩
theorem pss_tok {st : Stmt} {rest : List Stmt} {t v : TS} (h1 : PSG X st t) (h2 : PSsT X rest v) : PSs X (st :: rest) (tSeq t v) := by
  refine ⟨fun pins s σ H D I h => ?_⟩
  refine wpAny_execs_cons (thn (h1 pins s σ H { D with nx := v D } I h) fun f s1 q => ?_)
  obtain ⟨hk, q⟩ := q
  cases f with
  | next =>
    obtain ⟨σ', H', I', q⟩ := q
    exact h2 pins s1 σ' H' D (hk rfl) I' q
  | ret v => exact q
  | brk => exact q
  | cont => exact q
theorem pst_of {st : Stmt} {t : TS} (h : PS X st t) : PST X st t := fun pins s σ H D _ I q => h.run pins s σ H D I q
end
section
variable {X : Cx} {p : Px} {W : WX}
theorem qet_op {op : Operator} {f : O2} {a b : Expr} {pos : Pos} {ma mb : ME} (ho : OpM X (binaryOp op) f) (ha : PET X a (cE X.K p W ma)) (hb : PET X b (cE X.K p W mb)) : PET X (.BinOp a op b pos) (cE X.K p W (eOp f ma mb)) := let ⟨_, h, s⟩ := ho; imET (i_op s) (CwR.pet_op h ha hb)
theorem qeg_opL {op : Operator} {f : O2} {a b : Expr} {pos : Pos} {ma mb : ME} (ho : OpM X (binaryOp op) f) (ha : PEG X a (cE X.K p W ma)) (hb : PE X b (cE X.K p W mb)) : PEG X (.BinOp a op b pos) (cE X.K p W (eOp f ma mb)) := let ⟨_, h, s⟩ := ho; imEG (i_op s) (peg_opL h ha hb)
theorem qeg_opR {op : Operator} {f : O2} {a b : Expr} {pos : Pos} {ma mb : ME} (ho : OpM X (binaryOp op) f) (ha : PE X a (cE X.K p W ma)) (hb : PEG X b (cE X.K p W mb)) : PEG X (.BinOp a op b pos) (cE X.K p W (eOp f ma mb)) := let ⟨_, h, s⟩ := ho; imEG (i_op s) (peg_opR h ha hb)
end
section
variable {K : PySem.W.Frag} {p : Px} {W : WX}
theorem i_repl {ma : ME} {y z : String} (hy : (tx y).all (fun c => decide (c < 256)) = true) (hb : tx y ≠ []) (hl : (tx z).length ≤ 10) : ∀ σ H Q, cE K p W (eRepl ma (tx y) (tx z)) σ H Q → CwR.tReplC (cE K p W ma) (Str.ofString y) (Str.ofString z) σ H Q := fun σ H Q ⟨w, e, s, R, E, h⟩ =>
  ⟨w, e, s, R, E, Fin.bind h fun x s1 w1 H1 v x1 R1 r1 h1 => by
    split at h1
    · cases r1 with
      | str hz =>
      split at h1
      · rename_i t hc
        refine ⟨_, rfl, ?_, ?_⟩
        · rw [tS_len, tS_tx, tS_len]
          have hc : t.length ≤ 1000000 := hc
          have : (t.length + 1) * (tx z).length ≤ (t.length + 1) * 10 := Nat.mul_le_mul_left _ hl
          omega
        · rw [tS_tx, tS_tx, repl_tS hb hy]
          exact Fin.now h1 R1 (.str (okT_join (okT_tx z) (okT_spl _ _ 0 [] hz (fun q hq => by cases hq))))
      · exact h1.elim
    · exact h1.elim⟩
theorem i_up {ma : ME} : ∀ σ H Q, cE K p W (eUp ma) σ H Q → tM0 (fun x xs H Q => ∃ a, x = .str a ∧ xs = [] ∧ a.length ≤ 5592405 ∧ Q (.str (Txt.upper a)) H) (cE K p W ma) σ H Q := fun σ H Q ⟨w, e, s, R, E, h⟩ =>
  ⟨w, e, s, R, E, Fin.bind h fun x s1 w1 H1 v x1 R1 r1 h1 => by
    split at h1
    · cases r1 with
      | str hz =>
      split at h1
      · rename_i t hc
        refine ⟨⟨_, rfl⟩, _, rfl, rfl, ?_, ?_⟩
        · rw [tS_len]
          have hc : t.length ≤ 1000000 := hc.1
          omega
        · rw [upper_tS hc.2]
          exact Fin.now h1 R1 (.str (okT_up hz))
      · exact h1.elim
    · exact h1.elim⟩
end
end Ps

namespace Mo
open Pm
abbrev fuel : Nat := 1000000000000000000000000000000
noncomputable def b_law_begin : MS :=
  (sRet (eLst true (aCons (eOp mulD (eOp divD (eVar 0) (eC (.int 2))) (eOp subD (eC (.int 1)) (eOp modD (eVar 0) (eC (.int 2))))) (aCons (eOp modD (eVar 0) (eC (.int 2147483647))) (aCons (eC (.int 0)) aNil)))))
noncomputable def m_law_begin : MF := mkF 1 1 b_law_begin
noncomputable def b_law_next : MS :=
  (sSeq (sIf (uV (eOp gtD (eOp ixD (eVar 0) (eC (.int 0))) (eC (.int 0)))) (sSeq (sAsg (eOp modD (eOp ixD (eVar 0) (eC (.int 0))) (eVar 1)) (hNm 2))
    (sSeq (sPut (eVar 0) (eC (.int 0)) (eOp divD (eOp ixD (eVar 0) (eC (.int 0))) (eVar 1)))
    (sRet (eVar 2)))) sNext)
    (sSeq (sPut (eVar 0) (eC (.int 2)) (eOp addD (eOp ixD (eVar 0) (eC (.int 2))) (eC (.int 1))))
    (sSeq (sAsg (eOp modD (eOp mulD (eOp addD (eOp addD (eOp ixD (eVar 0) (eC (.int 1))) (eOp mulD (eC (.int 7919)) (eOp ixD (eVar 0) (eC (.int 2))))) (eC (.int 1))) (eC (.int 48271))) (eC (.int 2147483647))) (hNm 3))
    (sSeq (sAsg (eOp modD (eOp mulD (eVar 3) (eOp addD (eOp divD (eVar 3) (eC (.int 1009))) (eC (.int 69621)))) (eC (.int 2147483647))) (hNm 3))
    (sSeq (sAsg (eOp modD (eOp mulD (eVar 3) (eOp addD (eOp divD (eVar 3) (eC (.int 2003))) (eC (.int 40692)))) (eC (.int 2147483399))) (hNm 3))
    (sRet (eOp modD (eOp divD (eVar 3) (eC (.int 7))) (eVar 1))))))))
noncomputable def m_law_next : MF := mkF 2 4 b_law_next
noncomputable def b_law_word : MS :=
  (sSeq (sAsg (eLst true (aCons (eC (.str (tx "("))) (aCons (eC (.str (tx ")"))) (aCons (eC (.str (tx "&"))) (aCons (eC (.str (tx "|"))) (aCons (eC (.str (tx "any"))) (aCons (eC (.str (tx "kind"))) (aCons (eC (.str (tx "place"))) (aCons (eC (.str (tx "weight"))) (aCons (eC (.str (tx "not"))) (aCons (eC (.str (tx "a"))) (aCons (eC (.str (tx "fire"))) (aCons (eC (.str (tx "0"))) (aCons (eC (.str (tx "7"))) (aCons (eC (.str (tx "999999"))) (aCons (eC (.str (tx "-1"))) aNil)))))))))))))))) (hNm 1))
    (sSeq (sAsg (eOp addC (eVar 1) (eLst false (aCons (eC (.str (tx "-0"))) (aCons (eC (.str (tx "05"))) (aCons (eC (.str (tx "+5"))) (aCons (eC (.str (tx "5.0"))) (aCons (eC (.str (tx "Any"))) (aCons (eC (.str (tx "kinds"))) (aCons (eC (.str (tx "abcdefghi"))) (aCons (eC (.str (tx "a1"))) (aCons (eC (.str (tx "a-b"))) (aCons (eC (.str (tx ""))) (aCons (eC (.str (tx ":"))) (aCons (eC (.str (tx ";"))) (aCons (eC (.str (tx "(any"))) (aCons (eC (.str (tx "any)"))) aNil)))))))))))))))) (hNm 1))
    (sSeq (sDrop (eApp (eVar 1) (eC (.str (tx "&&")))))
    (sRet (eOp ixD (eVar 1) (eCall m_law_next (aCons (eVar 0) (aCons (eC (.int 30)) aNil))))))))
noncomputable def m_law_word : MF := mkF 1 2 b_law_word
noncomputable def b_law_changed : MS :=
  (sSeq (sAsg (eCall m_law_next (aCons (eVar 1) (aCons (eC (.int 6)) aNil))) (hNm 2))
    (sSeq (sAsg (eCall m_law_next (aCons (eVar 1) (aCons (eCall lenD (aCons (eVar 0) aNil)) aNil))) (hNm 3))
    (sSeq (sAsg (eCall m_law_next (aCons (eVar 1) (aCons (eCall lenD (aCons (eVar 0) aNil)) aNil))) (hNm 4))
    (sSeq (sIf (uV (eOp eqD (eVar 2) (eC (.int 0)))) (sRet (eOp addD (eSl (eVar 0) oNone (oSome (eVar 3))) (eSl (eVar 0) (oSome (eOp addD (eVar 3) (eC (.int 1)))) oNone))) sNext)
    (sSeq (sIf (uV (eOp eqD (eVar 2) (eC (.int 1)))) (sRet (eOp addD (eOp addD (eSl (eVar 0) oNone (oSome (eVar 3))) (eSl (eVar 0) (oSome (eVar 3)) (oSome (eOp addD (eVar 3) (eC (.int 1)))))) (eSl (eVar 0) (oSome (eVar 3)) oNone))) sNext)
    (sSeq (sIf (uV (eOp eqD (eVar 2) (eC (.int 2)))) (sSeq (sAsg (eOp addD (eSl (eVar 0) oNone (oSome (eVar 3))) (eSl (eVar 0) (oSome (eOp addD (eVar 3) (eC (.int 1)))) oNone)) (hNm 5))
    (sRet (eOp addD (eOp addD (eSl (eVar 5) oNone (oSome (eVar 4))) (eSl (eVar 0) (oSome (eVar 3)) (oSome (eOp addD (eVar 3) (eC (.int 1)))))) (eSl (eVar 5) (oSome (eVar 4)) oNone)))) sNext)
    (sSeq (sIf (uV (eOp eqD (eVar 2) (eC (.int 3)))) (sSeq (sAsg (eCall (listD true) (aCons (eVar 0) aNil)) (hNm 6))
    (sSeq (sPut (eVar 6) (eVar 3) (eOp ixD (eVar 0) (eVar 4)))
    (sSeq (sPut (eVar 6) (eVar 4) (eOp ixD (eVar 0) (eVar 3)))
    (sRet (eVar 6))))) sNext)
    (sRet (eOp addD (eOp addD (eSl (eVar 0) oNone (oSome (eVar 3))) (eLst false (aCons (eCall m_law_word (aCons (eVar 1) aNil)) aNil))) (eSl (eVar 0) (oSome (eOp addD (eVar 3) (eOp modD (eVar 2) (eC (.int 2))))) oNone))))))))))
noncomputable def m_law_changed : MF := mkF 2 7 b_law_changed
noncomputable def l_law_spoilt_1  : MS :=
  (sIf (uV (eOp neE (eVar 0) (eLst false aNil))) (sAsg (eCall m_law_changed (aCons (eVar 0) (aCons (eVar 1) aNil))) (hNm 0)) sNext)
noncomputable def b_law_spoilt : MS :=
  (sSeq (sIf (uV (eOp eqD (eCall m_law_next (aCons (eVar 1) (aCons (eC (.int 8)) aNil))) (eC (.int 7)))) (sRet (eLc false (wRng1 (aCons (eOp addD (eC (.int 1)) (eCall m_law_next (aCons (eVar 1) (aCons (eC (.int 6)) aNil)))) aNil)) (hNm 2) uYes (eCall m_law_word (aCons (eVar 1) aNil)) [2])) sNext)
    (sSeq (sFor (wRng1 (aCons (eOp addD (eC (.int 1)) (eCall m_law_next (aCons (eVar 1) (aCons (eC (.int 3)) aNil)))) aNil)) (hNm 2) l_law_spoilt_1)
    (sRet (eVar 0))))
noncomputable def m_law_spoilt : MF := mkF 2 3 b_law_spoilt
noncomputable def t_law_is_name_1  : MT :=
  (uV (eOp (inD true) (eVar 1) (eC (.str (tx "abcdefghijklmnopqrstuvwxyz")))))
noncomputable def b_law_is_name : MS :=
  (sRet (eAnd (eChain leD leD (eC (.int 1)) (eCall lenD (aCons (eVar 0) aNil)) (eC (.int 8))) (eOp eqE (eLc false (wD (eVar 0)) (hNm 1) t_law_is_name_1 (eVar 1) [1]) (eLst false aNil))))
noncomputable def m_law_is_name : MF := mkF 1 2 b_law_is_name
noncomputable def b_law_names : MS :=
  (sSeq (sAsg (eLst true aNil) (hNm 2))
    (sSeq (sWhile fuel (uAnd (uV (eOp ltD (eVar 1) (eCall lenD (aCons (eVar 0) aNil)))) (uTru (eCall m_law_is_name (aCons (eOp ixD (eVar 0) (eVar 1)) aNil)))) (sSeq (sDrop (eApp (eVar 2) (eOp ixD (eVar 0) (eVar 1))))
    (sAsg (eOp addD (eVar 1) (eC (.int 1))) (hNm 1))))
    (sRet (eVar 2))))
noncomputable def m_law_names : MF := mkF 2 3 b_law_names
noncomputable def t_law_is_weight_1  : MT :=
  (uV (eOp (inD true) (eVar 1) (eC (.str (tx "0123456789")))))
noncomputable def b_law_is_weight : MS :=
  (sSeq (sIf (uOr (uV (eOp eqD (eVar 0) (eC (.str (tx ""))))) (uOr (uV (eOp gtD (eCall lenD (aCons (eVar 0) aNil)) (eC (.int 60)))) (uV (eOp neE (eLc false (wD (eVar 0)) (hNm 1) t_law_is_weight_1 (eVar 1) [1]) (eLst false aNil))))) (sRet (eC (.bl false))) sNext)
    (sRet (eOr (eOp eqD (eVar 0) (eC (.str (tx "0")))) (eOp neD (eOp ixD (eVar 0) (eC (.int 0))) (eC (.str (tx "0")))))))
noncomputable def m_law_is_weight : MF := mkF 1 2 b_law_is_weight
noncomputable def b_law_read (r_law_read : MF) (r_law_several : MF) : MS :=
  (sSeq (sIf (uV (eOp geD (eVar 1) (eCall lenD (aCons (eVar 0) aNil)))) (sRet (eTup (aCons (eC .non) (aCons (eVar 1) aNil)))) sNext)
    (sSeq (sAsg (eOp ixD (eVar 0) (eVar 1)) (hNm 2))
    (sSeq (sIf (uV (eOp eqD (eVar 2) (eC (.str (tx "any"))))) (sRet (eTup (aCons (eTup (aCons (eC (.str (tx "any"))) aNil)) (aCons (eOp addD (eVar 1) (eC (.int 1))) aNil)))) sNext)
    (sSeq (sIf (uOr (uV (eOp eqD (eVar 2) (eC (.str (tx "kind"))))) (uV (eOp eqD (eVar 2) (eC (.str (tx "place")))))) (sSeq (sAsg (eCall m_law_names (aCons (eVar 0) (aCons (eOp addD (eVar 1) (eC (.int 1))) aNil))) (hNm 3))
    (sSeq (sIf (uOr (uV (eOp eqE (eVar 3) (eLst false aNil))) (uV (eOp ltD (eCall lenSetD (aCons (eVar 3) aNil)) (eCall lenD (aCons (eVar 3) aNil))))) (sRet (eTup (aCons (eC .non) (aCons (eVar 1) aNil)))) sNext)
    (sRet (eTup (aCons (eTup (aCons (eVar 2) (aCons (eCall tupD (aCons (eVar 3) aNil)) aNil))) (aCons (eOp addD (eOp addD (eVar 1) (eC (.int 1))) (eCall lenD (aCons (eVar 3) aNil))) aNil)))))) sNext)
    (sSeq (sIf (uAnd (uV (eOp eqD (eVar 2) (eC (.str (tx "weight"))))) (uAnd (uV (eOp ltD (eOp addD (eVar 1) (eC (.int 1))) (eCall lenD (aCons (eVar 0) aNil)))) (uTru (eCall m_law_is_weight (aCons (eOp ixD (eVar 0) (eOp addD (eVar 1) (eC (.int 1)))) aNil))))) (sRet (eTup (aCons (eTup (aCons (eC (.str (tx "weight"))) (aCons (eCall intT (aCons (eOp ixD (eVar 0) (eOp addD (eVar 1) (eC (.int 1)))) aNil)) aNil))) (aCons (eOp addD (eVar 1) (eC (.int 2))) aNil)))) sNext)
    (sSeq (sIf (uV (eOp eqD (eVar 2) (eC (.str (tx "not"))))) (sSeq (sAsg (eCall r_law_read (aCons (eVar 0) (aCons (eOp addD (eVar 1) (eC (.int 1))) aNil))) (hTup 2 (hCons (hNm 4) (hCons (hNm 1) hNil))))
    (sSeq (sIf (uV (eOp isND (eVar 4) (eC .non))) (sRet (eTup (aCons (eC .non) (aCons (eVar 1) aNil)))) sNext)
    (sRet (eTup (aCons (eTup (aCons (eC (.str (tx "not"))) (aCons (eVar 4) aNil))) (aCons (eVar 1) aNil)))))) sNext)
    (sSeq (sIf (uV (eOp eqD (eVar 2) (eC (.str (tx "("))))) (sRet (eCall r_law_several (aCons (eVar 0) (aCons (eOp addD (eVar 1) (eC (.int 1))) aNil)))) sNext)
    (sRet (eTup (aCons (eC .non) (aCons (eVar 1) aNil)))))))))))
noncomputable def l_law_several_1 (r_law_read : MF) (r_law_several : MF) : MS :=
  (sSeq (sAsg (eCall r_law_read (aCons (eVar 0) (aCons (eVar 1) aNil))) (hTup 2 (hCons (hNm 4) (hCons (hNm 1) hNil))))
    (sSeq (sIf (uOr (uV (eOp isND (eVar 4) (eC .non))) (uV (eOp geD (eVar 1) (eCall lenD (aCons (eVar 0) aNil))))) (sRet (eTup (aCons (eC .non) (aCons (eVar 1) aNil)))) sNext)
    (sSeq (sDrop (eApp (eVar 2) (eVar 4)))
    (sSeq (sIf (uV (eOp eqD (eOp ixD (eVar 0) (eVar 1)) (eC (.str (tx ")"))))) sBreak sNext)
    (sSeq (sIf (uOr (uV (eOp (inD true) (eOp ixD (eVar 0) (eVar 1)) (eLst false (aCons (eC (.str (tx "&"))) (aCons (eC (.str (tx "|"))) aNil))))) (uAnd (uV (eOp notND (eVar 3) (eC .non))) (uV (eOp neD (eOp ixD (eVar 0) (eVar 1)) (eVar 3))))) (sRet (eTup (aCons (eC .non) (aCons (eVar 1) aNil)))) sNext)
    (sSeq (sAsg (eOp ixD (eVar 0) (eVar 1)) (hNm 3))
    (sAsg (eOp addD (eVar 1) (eC (.int 1))) (hNm 1))))))))
noncomputable def b_law_several (r_law_read : MF) (r_law_several : MF) : MS :=
  (sSeq (sAsg (eLst true aNil) (hNm 2))
    (sSeq (sAsg (eC .non) (hNm 3))
    (sSeq (sWhile fuel (uTru (eC (.bl true))) (l_law_several_1 r_law_read r_law_several))
    (sSeq (sIf (uV (eOp isND (eVar 3) (eC .non))) (sRet (eTup (aCons (eC .non) (aCons (eVar 1) aNil)))) sNext)
    (sRet (eTup (aCons (eTup (aCons (eOp ixD (eLst false (aCons (eC (.str (tx "both"))) (aCons (eC (.str (tx "either"))) aNil))) (eCall toIntD (aCons (eOp eqD (eVar 3) (eC (.str (tx "|")))) aNil))) (aCons (eCall tupD (aCons (eVar 2) aNil)) aNil))) (aCons (eOp addD (eVar 1) (eC (.int 1))) aNil))))))))
mutual
noncomputable def q_law_read : Nat → MF
  | 0 => fun _ _ => .stuck
  | d + 1 => mkF 2 5 (b_law_read (q_law_read d) (q_law_several d))
noncomputable def q_law_several : Nat → MF
  | 0 => fun _ _ => .stuck
  | d + 1 => mkF 2 5 (b_law_several (q_law_read d) (q_law_several d))
end
theorem q_law_read_s (d : Nat) : q_law_read (d + 1) = mkF 2 5 (b_law_read (q_law_read d) (q_law_several d)) := rfl
theorem q_law_several_s (d : Nat) : q_law_several (d + 1) = mkF 2 5 (b_law_several (q_law_read d) (q_law_several d)) := rfl
noncomputable def m_law_read : MF := q_law_read 90
noncomputable def m_law_several : MF := q_law_several 90

noncomputable def b_text_unless : MS :=
  (sIf (uNot (uTru (eVar 0))) (sRaiseO "NoText" "line" 2 3 [(.int 0)] (aCons (eC (.str (tx "nothing is written so"))) aNil)) sNext)
noncomputable def m_text_unless : MF := mkF 1 1 b_text_unless
noncomputable def b_Words_init : MS :=
  (sSeq (sDrop (eCall m_text_unless (aCons (eCall isiD (aCons (eVar 1) (aCons (eC (.ty "str")) aNil))) aNil)))
    (sSeq (sSet "some" (eVar 0) (eSplit false (eVar 1) (eC (.str (tx " ")))))
    (sSet "at" (eVar 0) (eC (.int 0)))))
noncomputable def m_Words_init : MF := mkF 2 2 b_Words_init
noncomputable def b_Words_is_over : MS :=
  (sRet (eOp eqD (eUn (fldD "at") (eVar 0)) (eCall lenD (aCons (eUn (fldD "some") (eVar 0)) aNil))))
noncomputable def m_Words_is_over : MF := mkF 1 1 b_Words_is_over
noncomputable def b_Words_end : MS :=
  (sDrop (eCall m_text_unless (aCons (eMeth [("Words", m_Words_is_over)] (eVar 0) aNil) aNil)))
noncomputable def m_Words_end : MF := mkF 1 1 b_Words_end
noncomputable def e_Several_init_1  : ME :=
  (eCall isiD (aCons (eVar 2) (aCons (eC (.cls "Fit")) aNil)))
noncomputable def b_Several_init : MS :=
  (sSeq (sIf (uOr (uNot (uTru (eCall isiD (aCons (eVar 1) (aCons (eC (.ty "list")) aNil))))) (uOr (uV (eOp ltD (eCall lenD (aCons (eVar 1) aNil)) (eC (.int 2)))) (uNot (uTru (eCall allD (aCons (eLc false (wD (eVar 1)) (hNm 2) uYes e_Several_init_1 [2]) aNil)))))) (sRaise "NoFit") sNext)
    (sMe "fits" (eCall (listD false) (aCons (eVar 1) aNil))))
noncomputable def m_Several_init : MI := mkI 2 3 b_Several_init
noncomputable def b_Words_next_word : MS :=
  (sSeq (sDrop (eCall m_text_unless (aCons (eNot (eMeth [("Words", m_Words_is_over)] (eVar 0) aNil)) aNil)))
    (sSeq (sAugF "at" (eVar 0) (eC (.int 1)) addI)
    (sRet (eOp ixD (eUn (fldD "some") (eVar 0)) (eOp subD (eUn (fldD "at") (eVar 0)) (eC (.int 1)))))))
noncomputable def m_Words_next_word : MF := mkF 1 1 b_Words_next_word
noncomputable def b_Words_one_of : MS :=
  (sSeq (sAsg (eMeth [("Words", m_Words_next_word)] (eVar 0) aNil) (hNm 2))
    (sSeq (sDrop (eCall m_text_unless (aCons (eOp (inD false) (eVar 2) (eVar 1)) aNil)))
    (sRet (eVar 2))))
noncomputable def m_Words_one_of : MF := mkF 2 3 b_Words_one_of
noncomputable def b_is_name : MS :=
  (sSeq (sIf (uOr (uNot (uTru (eCall isiD (aCons (eVar 0) (aCons (eC (.ty "str")) aNil))))) (uOr (uV (eOp eqD (eVar 0) (eC (.str (tx ""))))) (uV (eOp gtD (eCall lenD (aCons (eVar 0) aNil)) (eC (.int 8)))))) (sRet (eC (.bl false))) sNext)
    (sRet (eCall allD (aCons (eLc false (wD (eVar 0)) (hNm 1) uYes (eOp (inD false) (eVar 1) (eC (.str (tx "abcdefghijklmnopqrstuvwxyz")))) [1]) aNil))))
noncomputable def m_is_name : MF := mkF 1 2 b_is_name
noncomputable def b_Words_front : MS :=
  (sSeq (sIf (uTru (eMeth [("Words", m_Words_is_over)] (eVar 0) aNil)) (sRet (eC (.str (tx "")))) sNext)
    (sRet (eOp ixD (eUn (fldD "some") (eVar 0)) (eUn (fldD "at") (eVar 0)))))
noncomputable def m_Words_front : MF := mkF 1 1 b_Words_front
noncomputable def t_names_in_1  : MT :=
  (uTru (eCall m_is_name (aCons (eMeth [("Words", m_Words_front)] (eVar 0) aNil) aNil)))
noncomputable def l_names_in_1  : MS :=
  (sDrop (eApp (eVar 1) (eMeth [("Words", m_Words_next_word)] (eVar 0) aNil)))
noncomputable def b_names_in : MS :=
  (sSeq (sAsg (eLst true aNil) (hNm 1))
    (sSeq (sWhile fuel t_names_in_1 l_names_in_1)
    (sRet (eVar 1))))
noncomputable def m_names_in : MF := mkF 1 2 b_names_in
noncomputable def b_are_names : MS :=
  (sSeq (sIf (uOr (uNot (uTru (eCall isiD (aCons (eVar 0) (aCons (eC (.ty "list")) aNil))))) (uNot (uTru (eCall allD (aCons (eLc false (wD (eVar 0)) (hNm 1) uYes (eCall m_is_name (aCons (eVar 1) aNil)) [1]) aNil))))) (sRet (eC (.bl false))) sNext)
    (sRet (eOp eqD (eCall lenSetD (aCons (eVar 0) aNil)) (eCall lenD (aCons (eVar 0) aNil)))))
noncomputable def m_are_names : MF := mkF 1 2 b_are_names
noncomputable def b_Named_init : MS :=
  (sSeq (sIf (uOr (uNot (uTru (eCall m_are_names (aCons (eVar 1) aNil)))) (uV (eOp eqE (eVar 1) (eLst false aNil)))) (sRaise "NoFit") sNext)
    (sMe "names" (eCall (listD false) (aCons (eVar 1) aNil))))
noncomputable def m_Named_init : MI := mkI 2 2 b_Named_init
noncomputable def b_is_whole : MS :=
  (sRet (eAnd (eCall isiD (aCons (eVar 0) (aCons (eC (.ty "int")) aNil))) (eNot (eCall isiD (aCons (eVar 0) (aCons (eC (.ty "bool")) aNil))))))
noncomputable def m_is_whole : MF := mkF 1 1 b_is_whole
noncomputable def b_is_weight : MS :=
  (sRet (eAnd (eCall m_is_whole (aCons (eVar 0) aNil)) (eOp geD (eVar 0) (eC (.int 0)))))
noncomputable def m_is_weight : MF := mkF 1 1 b_is_weight
noncomputable def b_Least_init : MS :=
  (sSeq (sIf (uNot (uTru (eCall m_is_weight (aCons (eVar 1) aNil)))) (sRaise "NoFit") sNext)
    (sMe "weight" (eVar 1)))
noncomputable def m_Least_init : MI := mkI 2 2 b_Least_init
noncomputable def b_Not_init : MS :=
  (sSeq (sIf (uNot (uTru (eCall isiD (aCons (eVar 1) (aCons (eC (.cls "Fit")) aNil))))) (sRaise "NoFit") sNext)
    (sMe "fit" (eVar 1)))
noncomputable def m_Not_init : MI := mkI 2 2 b_Not_init
noncomputable def e_number_of_1  : ME :=
  (eOp (inD false) (eVar 2) (eC (.str (tx "0123456789"))))
noncomputable def b_number_of : MS :=
  (sSeq (sAsg (eVar 0) (hNm 1))
    (sSeq (sIf (uTru (eStarts (eVar 0) (eC (.str (tx "-"))))) (sAsg (eSl (eVar 0) (oSome (eC (.int 1))) oNone) (hNm 1)) sNext)
    (sSeq (sDrop (eCall m_text_unless (aCons (eAnd (eChain leD leD (eC (.int 1)) (eCall lenD (aCons (eVar 1) aNil)) (eC (.int 60))) (eCall allD (aCons (eLc false (wD (eVar 1)) (hNm 2) uYes e_number_of_1 [2]) aNil))) aNil)))
    (sSeq (sDrop (eCall m_text_unless (aCons (eOr (eOp neD (eOp ixD (eVar 1) (eC (.int 0))) (eC (.str (tx "0")))) (eOp eqD (eVar 0) (eC (.str (tx "0"))))) aNil)))
    (sRet (eCall intT (aCons (eVar 0) aNil)))))))
noncomputable def m_number_of : MF := mkF 1 3 b_number_of
noncomputable def b_Words_next_number : MS :=
  (sRet (eCall m_number_of (aCons (eMeth [("Words", m_Words_next_word)] (eVar 0) aNil) aNil)))
noncomputable def m_Words_next_number : MF := mkF 1 1 b_Words_next_number
noncomputable def b_fit_in (r_fit_in : MF) (r_several_in : MF) : MS :=
  (sSeq (sDrop (eCall m_text_unless (aCons (eOp ltD (eVar 1) (eC (.int 40))) aNil)))
    (sSeq (sAsg (eMeth [("Words", m_Words_next_word)] (eVar 0) aNil) (hNm 2))
    (sSeq (sIf (uV (eOp eqD (eVar 2) (eC (.str (tx "any"))))) (sRet (eMake0 "Any")) sNext)
    (sSeq (sIf (uV (eOp eqD (eVar 2) (eC (.str (tx "kind"))))) (sRet (eMake "Kind" m_Named_init (aCons (eCall m_names_in (aCons (eVar 0) aNil)) aNil))) sNext)
    (sSeq (sIf (uV (eOp eqD (eVar 2) (eC (.str (tx "place"))))) (sRet (eMake "Place" m_Named_init (aCons (eCall m_names_in (aCons (eVar 0) aNil)) aNil))) sNext)
    (sSeq (sIf (uV (eOp eqD (eVar 2) (eC (.str (tx "weight"))))) (sRet (eMake "Least" m_Least_init (aCons (eMeth [("Words", m_Words_next_number)] (eVar 0) aNil) aNil))) sNext)
    (sSeq (sIf (uV (eOp eqD (eVar 2) (eC (.str (tx "not"))))) (sRet (eMake "Not" m_Not_init (aCons (eCallD r_fit_in [] (aCons (eVar 0) (aCons (eOp addD (eVar 1) (eC (.int 1))) aNil))) aNil))) sNext)
    (sSeq (sDrop (eCall m_text_unless (aCons (eOp eqD (eVar 2) (eC (.str (tx "(")))) aNil)))
    (sRet (eCall r_several_in (aCons (eVar 0) (aCons (eOp addD (eVar 1) (eC (.int 1))) aNil))))))))))))
noncomputable def l_several_in_1 (r_fit_in : MF) (r_several_in : MF) : MS :=
  (sSeq (sDrop (eApp (eVar 2) (eCallD r_fit_in [] (aCons (eVar 0) (aCons (eVar 1) aNil)))))
    (sAsg (eMeth [("Words", m_Words_next_word)] (eVar 0) aNil) (hNm 4)))
noncomputable def b_several_in (r_fit_in : MF) (r_several_in : MF) : MS :=
  (sSeq (sAsg (eLst true (aCons (eCallD r_fit_in [] (aCons (eVar 0) (aCons (eVar 1) aNil))) aNil)) (hNm 2))
    (sSeq (sAsg (eMeth [("Words", m_Words_one_of)] (eVar 0) (aCons (eTup (aCons (eC (.str (tx "&"))) (aCons (eC (.str (tx "|"))) aNil))) aNil)) (hNm 3))
    (sSeq (sAsg (eVar 3) (hNm 4))
    (sSeq (sWhile fuel (uV (eOp eqD (eVar 4) (eVar 3))) (l_several_in_1 r_fit_in r_several_in))
    (sSeq (sDrop (eCall m_text_unless (aCons (eOp eqD (eVar 4) (eC (.str (tx ")")))) aNil)))
    (sSeq (sIf (uV (eOp eqD (eVar 3) (eC (.str (tx "&"))))) (sRet (eMake "Both" m_Several_init (aCons (eVar 2) aNil))) sNext)
    (sRet (eMake "Either" m_Several_init (aCons (eVar 2) aNil)))))))))
mutual
noncomputable def q_fit_in : Nat → MF
  | 0 => fun _ _ => .stuck
  | d + 1 => mkF 2 3 (b_fit_in (q_fit_in d) (q_several_in d))
noncomputable def q_several_in : Nat → MF
  | 0 => fun _ _ => .stuck
  | d + 1 => mkF 2 5 (b_several_in (q_fit_in d) (q_several_in d))
end
theorem q_fit_in_s (d : Nat) : q_fit_in (d + 1) = mkF 2 3 (b_fit_in (q_fit_in d) (q_several_in d)) := rfl
theorem q_several_in_s (d : Nat) : q_several_in (d + 1) = mkF 2 5 (b_several_in (q_fit_in d) (q_several_in d)) := rfl
noncomputable def m_fit_in : MF := q_fit_in 90
noncomputable def m_several_in : MF := q_several_in 90
noncomputable def b_read_by : MS :=
  (sSeq (sAsg (eMakeC "Words" m_Words_init (aCons (eVar 0) aNil)) (hNm 2))
    (sSeq (sTryR (sAsg (eCallV "fit_in" m_fit_in [(.int 0)] 1 (aCons (eVar 2) aNil) eNone) (hNm 3)) ["NoClock", "NoFit", "NoWish"] (sRaiseO "NoText" "line" 2 3 [(.int 0)] (aCons (eC (.str (tx "what can't be made"))) aNil)))
    (sSeq (sDrop (eMeth [("Words", m_Words_end)] (eVar 2) aNil))
    (sRet (eVar 3)))))
noncomputable def m_read_by : MF := mkF 2 4 b_read_by
noncomputable def b_read_fit : MS :=
  (sRet (eCall m_read_by (aCons (eVar 0) (aCons (eC (.cls "fit_in")) aNil))))
noncomputable def m_read_fit : MF := mkF 1 1 b_read_fit
noncomputable def b_law_told : MS :=
  (sSeq (sAsg (eC .non) (hNm 1))
    (sSeq (sAsg (eUn negD (eC (.int 1))) (hNm 2))
    (sSeq (sTry (sAsg (eCall m_read_fit (aCons (eVar 0) aNil)) (hNm 1)) "NoText" 3 (sAsg (eFldE ["NoText"] "line") (hNm 2)))
    (sRet (eTup (aCons (eVar 1) (aCons (eVar 2) aNil)))))))
noncomputable def m_law_told : MF := mkF 1 4 b_law_told
noncomputable def b_law_text (r_law_text : MF) : MS :=
  (sSeq (sIf (uV (eOp eqD (eOp ixD (eVar 0) (eC (.int 0))) (eC (.str (tx "any"))))) (sRet (eC (.str (tx "any")))) sNext)
    (sSeq (sIf (uOr (uV (eOp eqD (eOp ixD (eVar 0) (eC (.int 0))) (eC (.str (tx "kind"))))) (uV (eOp eqD (eOp ixD (eVar 0) (eC (.int 0))) (eC (.str (tx "place")))))) (sRet (eOp addD (eOp addD (eOp ixD (eVar 0) (eC (.int 0))) (eC (.str (tx " ")))) (eJoin (eC (.str (tx " "))) (eOp ixD (eVar 0) (eC (.int 1)))))) sNext)
    (sSeq (sIf (uV (eOp eqD (eOp ixD (eVar 0) (eC (.int 0))) (eC (.str (tx "weight"))))) (sRet (eOp addD (eC (.str (tx "weight "))) (eCall strD (aCons (eOp ixD (eVar 0) (eC (.int 1))) aNil)))) sNext)
    (sSeq (sIf (uV (eOp eqD (eOp ixD (eVar 0) (eC (.int 0))) (eC (.str (tx "not"))))) (sRet (eOp addD (eC (.str (tx "not "))) (eCall r_law_text (aCons (eOp ixD (eVar 0) (eC (.int 1))) aNil)))) sNext)
    (sSeq (sAsg (eOp ixD (eLst false (aCons (eC (.str (tx " & "))) (aCons (eC (.str (tx " | "))) aNil))) (eCall toIntD (aCons (eOp eqD (eOp ixD (eVar 0) (eC (.int 0))) (eC (.str (tx "either")))) aNil))) (hNm 1))
    (sRet (eOp addD (eOp addD (eC (.str (tx "( "))) (eJoin (eVar 1) (eLc false (wD (eOp ixD (eVar 0) (eC (.int 1)))) (hNm 2) uYes (eCall r_law_text (aCons (eVar 2) aNil)) [2]))) (eC (.str (tx " )"))))))))))
noncomputable def q_law_text : Nat → MF
  | 0 => fun _ _ => .stuck
  | d + 1 => mkF 1 3 (b_law_text (q_law_text d))
theorem q_law_text_s (d : Nat) : q_law_text (d + 1) = mkF 1 3 (b_law_text (q_law_text d)) := rfl
noncomputable def m_law_text : MF := q_law_text 50
noncomputable def b_law_name : MS :=
  (sSeq (sAsg (eC (.str (tx "abcdefghijklmnopqrstuvwxyz"))) (hNm 1))
    (sSeq (sAsg (eCall m_law_next (aCons (eVar 0) (aCons (eC (.int 4)) aNil))) (hNm 2))
    (sSeq (sIf (uV (eOp eqD (eVar 2) (eC (.int 0)))) (sSeq (sAsg (eLst false (aCons (eC (.str (tx "any"))) (aCons (eC (.str (tx "kind"))) (aCons (eC (.str (tx "place"))) (aCons (eC (.str (tx "weight"))) (aCons (eC (.str (tx "not"))) (aCons (eC (.str (tx "by"))) (aCons (eC (.str (tx "now"))) (aCons (eC (.str (tx "hour"))) (aCons (eC (.str (tx "day"))) (aCons (eC (.str (tx "never"))) (aCons (eC (.str (tx "sure"))) (aCons (eC (.str (tx "raise"))) (aCons (eC (.str (tx "zone"))) aNil)))))))))))))) (hNm 3))
    (sRet (eOp ixD (eOp addD (eVar 3) (eLst false (aCons (eC (.str (tx "quiet"))) (aCons (eC (.str (tx "a"))) (aCons (eC (.str (tx "to"))) aNil))))) (eCall m_law_next (aCons (eVar 0) (aCons (eC (.int 16)) aNil)))))) sNext)
    (sSeq (sIf (uV (eOp eqD (eVar 2) (eC (.int 1)))) (sSeq (sAsg (eSl (eC (.str (tx "bcdefghi"))) oNone (oSome (eOp addD (eC (.int 1)) (eCall m_law_next (aCons (eVar 0) (aCons (eC (.int 8)) aNil)))))) (hNm 4))
    (sSeq (sAsg (eCall m_law_next (aCons (eVar 0) (aCons (eCall lenD (aCons (eVar 4) aNil)) aNil))) (hNm 5))
    (sRet (eOp addD (eOp addD (eSl (eVar 4) oNone (oSome (eVar 5))) (eOp ixD (eC (.str (tx "axz"))) (eCall m_law_next (aCons (eVar 0) (aCons (eC (.int 3)) aNil))))) (eSl (eVar 4) (oSome (eOp addD (eVar 5) (eC (.int 1)))) oNone))))) sNext)
    (sRet (eJoin (eC (.str (tx ""))) (eLc false (wRng1 (aCons (eOp addD (eC (.int 1)) (eCall m_law_next (aCons (eVar 0) (aCons (eC (.int 8)) aNil)))) aNil)) (hNm 6) uYes (eOp ixD (eVar 1) (eCall m_law_next (aCons (eVar 0) (aCons (eC (.int 26)) aNil)))) [6])))))))
noncomputable def m_law_name : MF := mkF 1 7 b_law_name
noncomputable def l_law_leaf_1  : MS :=
  (sSeq (sAsg (eCall m_law_name (aCons (eVar 0) aNil)) (hNm 5))
    (sIf (uV (eOp (inD true) (eVar 5) (eVar 3))) (sDrop (eApp (eVar 3) (eVar 5))) sNext))
noncomputable def b_law_leaf : MS :=
  (sSeq (sAsg (eCall m_law_next (aCons (eVar 0) (aCons (eC (.int 7)) aNil))) (hNm 2))
    (sSeq (sIf (uV (eOp eqD (eVar 2) (eC (.int 0)))) (sRet (eTup (aCons (eC (.str (tx "any"))) aNil))) sNext)
    (sSeq (sIf (uV (eOp ltD (eVar 2) (eC (.int 3)))) (sRet (eTup (aCons (eC (.str (tx "weight"))) (aCons (eOp ixD (eLst false (aCons (eCall m_law_next (aCons (eVar 0) (aCons (eC (.int 9)) aNil))) (aCons (eCall m_law_next (aCons (eVar 0) (aCons (eC (.int 1000000)) aNil))) aNil))) (eOp divD (eCall m_law_next (aCons (eVar 0) (aCons (eC (.int 3)) aNil))) (eC (.int 2)))) aNil)))) sNext)
    (sSeq (sAsg (eLst true (aCons (eCall m_law_name (aCons (eVar 0) aNil)) aNil)) (hNm 3))
    (sSeq (sFor (wRng1 (aCons (eCall m_law_next (aCons (eVar 0) (aCons (eOp addD (eC (.int 1)) (eVar 1)) aNil))) aNil)) (hNm 4) l_law_leaf_1)
    (sRet (eTup (aCons (eOp ixD (eLst false (aCons (eC (.str (tx "kind"))) (aCons (eC (.str (tx "place"))) aNil))) (eOp modD (eVar 2) (eC (.int 2)))) (aCons (eCall tupD (aCons (eVar 3) aNil)) aNil)))))))))
noncomputable def m_law_leaf : MF := mkF 2 6 b_law_leaf
noncomputable def e_law_tree_1 (r_law_tree : MF) : ME :=
  (eCall r_law_tree (aCons (eVar 0) (aCons (eOp subD (eVar 1) (eC (.int 1))) (aCons (eVar 2) aNil))))
noncomputable def b_law_tree (r_law_tree : MF) : MS :=
  (sSeq (sAsg (eCall m_law_next (aCons (eVar 0) (aCons (eC (.int 8)) aNil))) (hNm 3))
    (sSeq (sIf (uOr (uV (eOp eqD (eVar 1) (eC (.int 0)))) (uV (eOp ltD (eVar 3) (eC (.int 3))))) (sRet (eCall m_law_leaf (aCons (eVar 0) (aCons (eOp mulD (eVar 2) (eCall toIntD (aCons (eOp gtD (eVar 1) (eC (.int 0))) aNil))) aNil)))) sNext)
    (sSeq (sIf (uV (eOp eqD (eVar 3) (eC (.int 3)))) (sRet (eTup (aCons (eC (.str (tx "not"))) (aCons (eCall r_law_tree (aCons (eVar 0) (aCons (eOp subD (eVar 1) (eC (.int 1))) (aCons (eVar 2) aNil)))) aNil)))) sNext)
    (sSeq (sAsg (eLc false (wRng1 (aCons (eOp addD (eC (.int 2)) (eCall toIntD (aCons (eAnd (eOp gtD (eVar 1) (eC (.int 2))) (eOp gtD (eVar 3) (eC (.int 5)))) aNil))) aNil)) (hNm 5) uYes (e_law_tree_1 r_law_tree) [5]) (hNm 4))
    (sRet (eTup (aCons (eOp ixD (eLst false (aCons (eC (.str (tx "both"))) (aCons (eC (.str (tx "either"))) aNil))) (eOp modD (eVar 3) (eC (.int 2)))) (aCons (eCall tupD (aCons (eVar 4) aNil)) aNil))))))))
noncomputable def q_law_tree : Nat → MF
  | 0 => fun _ _ => .stuck
  | d + 1 => mkF 3 6 (b_law_tree (q_law_tree d))
theorem q_law_tree_s (d : Nat) : q_law_tree (d + 1) = mkF 3 6 (b_law_tree (q_law_tree d)) := rfl
noncomputable def m_law_tree : MF := q_law_tree 50
noncomputable def b_show_fit (r_show_fit : MF) : MS :=
  (sSeq (sIf (uTru (eCall isiD (aCons (eVar 0) (aCons (eC (.cls "Kind")) aNil)))) (sRet (eJoin (eC (.str (tx " "))) (eOp addD (eLst false (aCons (eC (.str (tx "kind"))) aNil)) (eUn (fldD "names") (eVar 0))))) sNext)
    (sSeq (sIf (uTru (eCall isiD (aCons (eVar 0) (aCons (eC (.cls "Place")) aNil)))) (sRet (eJoin (eC (.str (tx " "))) (eOp addD (eLst false (aCons (eC (.str (tx "place"))) aNil)) (eUn (fldD "names") (eVar 0))))) sNext)
    (sSeq (sIf (uTru (eCall isiD (aCons (eVar 0) (aCons (eC (.cls "Least")) aNil)))) (sRet (eOp addD (eC (.str (tx "weight "))) (eCall strD (aCons (eUn (fldD "weight") (eVar 0)) aNil)))) sNext)
    (sSeq (sIf (uTru (eCall isiD (aCons (eVar 0) (aCons (eC (.cls "Not")) aNil)))) (sRet (eOp addD (eC (.str (tx "not "))) (eCall r_show_fit (aCons (eUn (fldD "fit") (eVar 0)) aNil)))) sNext)
    (sSeq (sIf (uTru (eCall isiD (aCons (eVar 0) (aCons (eC (.cls "Both")) aNil)))) (sRet (eOp addD (eOp addD (eC (.str (tx "( "))) (eJoin (eC (.str (tx " & "))) (eLc false (wD (eUn (fldD "fits") (eVar 0))) (hNm 1) uYes (eCall r_show_fit (aCons (eVar 1) aNil)) [1]))) (eC (.str (tx " )"))))) sNext)
    (sSeq (sIf (uTru (eCall isiD (aCons (eVar 0) (aCons (eC (.cls "Either")) aNil)))) (sRet (eOp addD (eOp addD (eC (.str (tx "( "))) (eJoin (eC (.str (tx " | "))) (eLc false (wD (eUn (fldD "fits") (eVar 0))) (hNm 1) uYes (eCall r_show_fit (aCons (eVar 1) aNil)) [1]))) (eC (.str (tx " )"))))) sNext)
    (sRet (eC (.str (tx "any"))))))))))
noncomputable def q_show_fit : Nat → MF
  | 0 => fun _ _ => .stuck
  | d + 1 => mkF 1 2 (b_show_fit (q_show_fit d))
theorem q_show_fit_s (d : Nat) : q_show_fit (d + 1) = mkF 1 2 (b_show_fit (q_show_fit d)) := rfl
noncomputable def m_show_fit : MF := q_show_fit 50
noncomputable def e_law_same_1 (r_law_same : MF) : ME :=
  (eOp eqD (eVar 4) (eOp ixD (eVar 1) (eC (.int 0))))
noncomputable def t_law_same_1 (r_law_same : MF) : MT :=
  (uNot (uTru (eCall r_law_same (aCons (eOp ixD (eUn (fldD "fits") (eVar 0)) (eVar 5)) (aCons (eOp ixD (eOp ixD (eVar 1) (eC (.int 1))) (eVar 5)) aNil)))))
noncomputable def b_law_same (r_law_same : MF) : MS :=
  (sSeq (sAsg (eLst false (aCons (eCall isiD (aCons (eVar 0) (aCons (eC (.cls "Any")) aNil))) (aCons (eCall isiD (aCons (eVar 0) (aCons (eC (.cls "Kind")) aNil))) (aCons (eCall isiD (aCons (eVar 0) (aCons (eC (.cls "Place")) aNil))) (aCons (eCall isiD (aCons (eVar 0) (aCons (eC (.cls "Least")) aNil))) aNil))))) (hNm 2))
    (sSeq (sAsg (eOp addD (eVar 2) (eLst false (aCons (eCall isiD (aCons (eVar 0) (aCons (eC (.cls "Not")) aNil))) (aCons (eCall isiD (aCons (eVar 0) (aCons (eC (.cls "Both")) aNil))) (aCons (eCall isiD (aCons (eVar 0) (aCons (eC (.cls "Either")) aNil))) aNil))))) (hNm 2))
    (sSeq (sAsg (eLst false (aCons (eC (.str (tx "any"))) (aCons (eC (.str (tx "kind"))) (aCons (eC (.str (tx "place"))) (aCons (eC (.str (tx "weight"))) (aCons (eC (.str (tx "not"))) (aCons (eC (.str (tx "both"))) (aCons (eC (.str (tx "either"))) aNil)))))))) (hNm 3))
    (sSeq (sIf (uV (eOp neD (eVar 2) (eLc false (wD (eVar 3)) (hNm 4) uYes (e_law_same_1 r_law_same) [4]))) (sRet (eC (.bl false))) sNext)
    (sSeq (sIf (uOr (uV (eOp eqD (eOp ixD (eVar 1) (eC (.int 0))) (eC (.str (tx "kind"))))) (uV (eOp eqD (eOp ixD (eVar 1) (eC (.int 0))) (eC (.str (tx "place")))))) (sRet (eOp eqD (eUn (fldD "names") (eVar 0)) (eCall (listD false) (aCons (eOp ixD (eVar 1) (eC (.int 1))) aNil)))) sNext)
    (sSeq (sIf (uV (eOp eqD (eOp ixD (eVar 1) (eC (.int 0))) (eC (.str (tx "weight"))))) (sRet (eAnd (eCall isiD (aCons (eUn (fldD "weight") (eVar 0)) (aCons (eC (.ty "int")) aNil))) (eAnd (eNot (eCall isiD (aCons (eUn (fldD "weight") (eVar 0)) (aCons (eC (.ty "bool")) aNil)))) (eOp eqD (eUn (fldD "weight") (eVar 0)) (eOp ixD (eVar 1) (eC (.int 1))))))) sNext)
    (sSeq (sIf (uV (eOp eqD (eOp ixD (eVar 1) (eC (.int 0))) (eC (.str (tx "not"))))) (sRet (eCall r_law_same (aCons (eUn (fldD "fit") (eVar 0)) (aCons (eOp ixD (eVar 1) (eC (.int 1))) aNil)))) sNext)
    (sSeq (sIf (uV (eOp eqD (eOp ixD (eVar 1) (eC (.int 0))) (eC (.str (tx "any"))))) (sRet (eC (.bl true))) sNext)
    (sSeq (sIf (uOr (uNot (uTru (eCall isiD (aCons (eUn (fldD "fits") (eVar 0)) (aCons (eC (.ty "list")) aNil))))) (uV (eOp neD (eCall lenD (aCons (eUn (fldD "fits") (eVar 0)) aNil)) (eCall lenD (aCons (eOp ixD (eVar 1) (eC (.int 1))) aNil))))) (sRet (eC (.bl false))) sNext)
    (sRet (eOp eqE (eLc false (wRng1 (aCons (eCall lenD (aCons (eOp ixD (eVar 1) (eC (.int 1))) aNil)) aNil)) (hNm 5) (t_law_same_1 r_law_same) (eVar 5) [5]) (eLst false aNil))))))))))))
noncomputable def q_law_same : Nat → MF
  | 0 => fun _ _ => .stuck
  | d + 1 => mkF 2 6 (b_law_same (q_law_same d))
theorem q_law_same_s (d : Nat) : q_law_same (d + 1) = mkF 2 6 (b_law_same (q_law_same d)) := rfl
noncomputable def m_law_same : MF := q_law_same 50
noncomputable def l_law_1  : MS :=
  (sSeq (sAsg (eCall m_law_told (aCons (eVar 6) aNil)) (hTup 2 (hCons (hNm 8) (hCons (hNm 9) hNil))))
    (sSeq (sIf (uAnd (uV (eOp isND (eVar 4) (eC .non))) (uOr (uV (eOp notND (eVar 8) (eC .non))) (uV (eOp neD (eVar 9) (eC (.int 0)))))) (sRet (eC (.bl false))) sNext)
    (sSeq (sIf (uAnd (uV (eOp notND (eVar 4) (eC .non))) (uOr (uV (eOp neD (eVar 9) (eUn negD (eC (.int 1))))) (uNot (uTru (eCall m_law_same (aCons (eVar 8) (aCons (eVar 4) aNil))))))) (sRet (eC (.bl false))) sNext)
    (sIf (uAnd (uV (eOp notND (eVar 4) (eC .non))) (uV (eOp neD (eCall m_show_fit (aCons (eVar 8) aNil)) (eVar 6)))) (sRet (eC (.bl false))) sNext))))
noncomputable def l_law_2  : MS :=
  (sSeq (sAsg (eCall m_law_begin (aCons (eVar 1) aNil)) (hNm 2))
    (sSeq (sAsg (eSplit false (eCall m_law_text (aCons (eCall m_law_tree (aCons (eVar 2) (aCons (eC (.int 2)) (aCons (eC (.int 2)) aNil)))) aNil)) (eC (.str (tx " ")))) (hNm 3))
    (sSeq (sAsg (eCall m_law_spoilt (aCons (eVar 3) (aCons (eVar 2) aNil))) (hNm 3))
    (sSeq (sAsg (eCall m_law_read (aCons (eVar 3) (aCons (eC (.int 0)) aNil))) (hTup 2 (hCons (hNm 4) (hCons (hNm 5) hNil))))
    (sSeq (sIf (uV (eOp ltD (eVar 5) (eCall lenD (aCons (eVar 3) aNil)))) (sAsg (eC .non) (hNm 4)) sNext)
    (sSeq (sAsg (eJoin (eC (.str (tx " "))) (eVar 3)) (hNm 6))
    (sFor (wRng1 (aCons (eC (.int 2)) aNil)) (hNm 7) l_law_1)))))))
noncomputable def b_law : MS :=
  (sSeq (sFor (wD (eOp addD (eLst false (aCons (eC (.int 0)) aNil)) (eSl (eVar 0) oNone (oSome (eC (.int 12)))))) (hNm 1) l_law_2)
    (sRet (eC (.bl true))))
noncomputable def m_law : MF := mkF 1 10 b_law
end Mo
namespace Pm
@[simp] theorem cf_0 : inT "Fit" = true := by decide +kernel
@[simp] theorem cf_1 : inT "Any" = true := by decide +kernel
@[simp] theorem cf_2 : isSub "Any" "Fit" = true := by decide +kernel
@[simp] theorem cf_3 : isSub "Any" "Any" = true := by decide +kernel
@[simp] theorem cf_4 : isSub "Any" "Kind" = false := by decide +kernel
@[simp] theorem cf_5 : isSub "Any" "Place" = false := by decide +kernel
@[simp] theorem cf_6 : isSub "Any" "Least" = false := by decide +kernel
@[simp] theorem cf_7 : isSub "Any" "Not" = false := by decide +kernel
@[simp] theorem cf_8 : isSub "Any" "Both" = false := by decide +kernel
@[simp] theorem cf_9 : isSub "Any" "Either" = false := by decide +kernel
@[simp] theorem cf_10 : isSub "Any" "Words" = false := by decide +kernel
@[simp] theorem cf_11 : inT "Named" = true := by decide +kernel
@[simp] theorem cf_12 : hasF "Named" "names" = true := by decide +kernel
@[simp] theorem cf_13 : inT "Kind" = true := by decide +kernel
@[simp] theorem cf_14 : isSub "Kind" "Fit" = true := by decide +kernel
@[simp] theorem cf_15 : isSub "Kind" "Any" = false := by decide +kernel
@[simp] theorem cf_16 : isSub "Kind" "Kind" = true := by decide +kernel
@[simp] theorem cf_17 : isSub "Kind" "Place" = false := by decide +kernel
@[simp] theorem cf_18 : isSub "Kind" "Least" = false := by decide +kernel
@[simp] theorem cf_19 : isSub "Kind" "Not" = false := by decide +kernel
@[simp] theorem cf_20 : isSub "Kind" "Both" = false := by decide +kernel
@[simp] theorem cf_21 : isSub "Kind" "Either" = false := by decide +kernel
@[simp] theorem cf_22 : isSub "Kind" "Words" = false := by decide +kernel
@[simp] theorem cf_23 : hasF "Kind" "names" = true := by decide +kernel
@[simp] theorem cf_24 : inT "Place" = true := by decide +kernel
@[simp] theorem cf_25 : isSub "Place" "Fit" = true := by decide +kernel
@[simp] theorem cf_26 : isSub "Place" "Any" = false := by decide +kernel
@[simp] theorem cf_27 : isSub "Place" "Kind" = false := by decide +kernel
@[simp] theorem cf_28 : isSub "Place" "Place" = true := by decide +kernel
@[simp] theorem cf_29 : isSub "Place" "Least" = false := by decide +kernel
@[simp] theorem cf_30 : isSub "Place" "Not" = false := by decide +kernel
@[simp] theorem cf_31 : isSub "Place" "Both" = false := by decide +kernel
@[simp] theorem cf_32 : isSub "Place" "Either" = false := by decide +kernel
@[simp] theorem cf_33 : isSub "Place" "Words" = false := by decide +kernel
@[simp] theorem cf_34 : hasF "Place" "names" = true := by decide +kernel
@[simp] theorem cf_35 : inT "Least" = true := by decide +kernel
@[simp] theorem cf_36 : isSub "Least" "Fit" = true := by decide +kernel
@[simp] theorem cf_37 : isSub "Least" "Any" = false := by decide +kernel
@[simp] theorem cf_38 : isSub "Least" "Kind" = false := by decide +kernel
@[simp] theorem cf_39 : isSub "Least" "Place" = false := by decide +kernel
@[simp] theorem cf_40 : isSub "Least" "Least" = true := by decide +kernel
@[simp] theorem cf_41 : isSub "Least" "Not" = false := by decide +kernel
@[simp] theorem cf_42 : isSub "Least" "Both" = false := by decide +kernel
@[simp] theorem cf_43 : isSub "Least" "Either" = false := by decide +kernel
@[simp] theorem cf_44 : isSub "Least" "Words" = false := by decide +kernel
@[simp] theorem cf_45 : hasF "Least" "weight" = true := by decide +kernel
@[simp] theorem cf_46 : inT "Not" = true := by decide +kernel
@[simp] theorem cf_47 : isSub "Not" "Fit" = true := by decide +kernel
@[simp] theorem cf_48 : isSub "Not" "Any" = false := by decide +kernel
@[simp] theorem cf_49 : isSub "Not" "Kind" = false := by decide +kernel
@[simp] theorem cf_50 : isSub "Not" "Place" = false := by decide +kernel
@[simp] theorem cf_51 : isSub "Not" "Least" = false := by decide +kernel
@[simp] theorem cf_52 : isSub "Not" "Not" = true := by decide +kernel
@[simp] theorem cf_53 : isSub "Not" "Both" = false := by decide +kernel
@[simp] theorem cf_54 : isSub "Not" "Either" = false := by decide +kernel
@[simp] theorem cf_55 : isSub "Not" "Words" = false := by decide +kernel
@[simp] theorem cf_56 : hasF "Not" "fit" = true := by decide +kernel
@[simp] theorem cf_57 : inT "Several" = true := by decide +kernel
@[simp] theorem cf_58 : hasF "Several" "fits" = true := by decide +kernel
@[simp] theorem cf_59 : inT "Both" = true := by decide +kernel
@[simp] theorem cf_60 : isSub "Both" "Fit" = true := by decide +kernel
@[simp] theorem cf_61 : isSub "Both" "Any" = false := by decide +kernel
@[simp] theorem cf_62 : isSub "Both" "Kind" = false := by decide +kernel
@[simp] theorem cf_63 : isSub "Both" "Place" = false := by decide +kernel
@[simp] theorem cf_64 : isSub "Both" "Least" = false := by decide +kernel
@[simp] theorem cf_65 : isSub "Both" "Not" = false := by decide +kernel
@[simp] theorem cf_66 : isSub "Both" "Both" = true := by decide +kernel
@[simp] theorem cf_67 : isSub "Both" "Either" = false := by decide +kernel
@[simp] theorem cf_68 : isSub "Both" "Words" = false := by decide +kernel
@[simp] theorem cf_69 : hasF "Both" "fits" = true := by decide +kernel
@[simp] theorem cf_70 : inT "Either" = true := by decide +kernel
@[simp] theorem cf_71 : isSub "Either" "Fit" = true := by decide +kernel
@[simp] theorem cf_72 : isSub "Either" "Any" = false := by decide +kernel
@[simp] theorem cf_73 : isSub "Either" "Kind" = false := by decide +kernel
@[simp] theorem cf_74 : isSub "Either" "Place" = false := by decide +kernel
@[simp] theorem cf_75 : isSub "Either" "Least" = false := by decide +kernel
@[simp] theorem cf_76 : isSub "Either" "Not" = false := by decide +kernel
@[simp] theorem cf_77 : isSub "Either" "Both" = false := by decide +kernel
@[simp] theorem cf_78 : isSub "Either" "Either" = true := by decide +kernel
@[simp] theorem cf_79 : isSub "Either" "Words" = false := by decide +kernel
@[simp] theorem cf_80 : hasF "Either" "fits" = true := by decide +kernel
@[simp] theorem cf_81 : inT "Words" = true := by decide +kernel
@[simp] theorem cf_82 : isSub "Words" "Fit" = false := by decide +kernel
@[simp] theorem cf_83 : isSub "Words" "Any" = false := by decide +kernel
@[simp] theorem cf_84 : isSub "Words" "Kind" = false := by decide +kernel
@[simp] theorem cf_85 : isSub "Words" "Place" = false := by decide +kernel
@[simp] theorem cf_86 : isSub "Words" "Least" = false := by decide +kernel
@[simp] theorem cf_87 : isSub "Words" "Not" = false := by decide +kernel
@[simp] theorem cf_88 : isSub "Words" "Both" = false := by decide +kernel
@[simp] theorem cf_89 : isSub "Words" "Either" = false := by decide +kernel
@[simp] theorem cf_90 : isSub "Words" "Words" = true := by decide +kernel
@[simp] theorem cf_91 : hasF "Words" "some" = true := by decide +kernel
@[simp] theorem cf_92 : hasF "Words" "at" = true := by decide +kernel
@[simp] theorem cf_93 : inX "BellError" = true := by decide +kernel
@[simp] theorem cf_94 : isSubX "BellError" "BellError" = true := by decide +kernel
@[simp] theorem cf_95 : isSubX "BellError" "NoClock" = false := by decide +kernel
@[simp] theorem cf_96 : isSubX "BellError" "NoFit" = false := by decide +kernel
@[simp] theorem cf_97 : isSubX "BellError" "NoWish" = false := by decide +kernel
@[simp] theorem cf_98 : isSubX "BellError" "NoText" = false := by decide +kernel
@[simp] theorem cf_99 : inX "NoClock" = true := by decide +kernel
@[simp] theorem cf_100 : isSubX "NoClock" "BellError" = true := by decide +kernel
@[simp] theorem cf_101 : isSubX "NoClock" "NoClock" = true := by decide +kernel
@[simp] theorem cf_102 : isSubX "NoClock" "NoFit" = false := by decide +kernel
@[simp] theorem cf_103 : isSubX "NoClock" "NoWish" = false := by decide +kernel
@[simp] theorem cf_104 : isSubX "NoClock" "NoText" = false := by decide +kernel
@[simp] theorem cf_105 : inX "NoFit" = true := by decide +kernel
@[simp] theorem cf_106 : isSubX "NoFit" "BellError" = true := by decide +kernel
@[simp] theorem cf_107 : isSubX "NoFit" "NoClock" = false := by decide +kernel
@[simp] theorem cf_108 : isSubX "NoFit" "NoFit" = true := by decide +kernel
@[simp] theorem cf_109 : isSubX "NoFit" "NoWish" = false := by decide +kernel
@[simp] theorem cf_110 : isSubX "NoFit" "NoText" = false := by decide +kernel
@[simp] theorem cf_111 : inX "NoWish" = true := by decide +kernel
@[simp] theorem cf_112 : isSubX "NoWish" "BellError" = true := by decide +kernel
@[simp] theorem cf_113 : isSubX "NoWish" "NoClock" = false := by decide +kernel
@[simp] theorem cf_114 : isSubX "NoWish" "NoFit" = false := by decide +kernel
@[simp] theorem cf_115 : isSubX "NoWish" "NoWish" = true := by decide +kernel
@[simp] theorem cf_116 : isSubX "NoWish" "NoText" = false := by decide +kernel
@[simp] theorem cf_117 : inX "NoText" = true := by decide +kernel
@[simp] theorem cf_118 : isSubX "NoText" "BellError" = true := by decide +kernel
@[simp] theorem cf_119 : isSubX "NoText" "NoClock" = false := by decide +kernel
@[simp] theorem cf_120 : isSubX "NoText" "NoFit" = false := by decide +kernel
@[simp] theorem cf_121 : isSubX "NoText" "NoWish" = false := by decide +kernel
@[simp] theorem cf_122 : isSubX "NoText" "NoText" = true := by decide +kernel
@[simp] theorem cf_123 : "int" ∈ bTys := by decide +kernel
@[simp] theorem cf_124 : "bool" ∈ bTys := by decide +kernel
@[simp] theorem cf_125 : "str" ∈ bTys := by decide +kernel
@[simp] theorem cf_126 : "NoneType" ∈ bTys := by decide +kernel
@[simp] theorem cf_127 : "tuple" ∈ bTys := by decide +kernel
@[simp] theorem cf_128 : "list" ∈ bTys := by decide +kernel
@[simp] theorem cf_129 : "dict" ∈ bTys := by decide +kernel
@[simp] theorem most_eq : most = 1000000 := rfl
end Pm
namespace Pm
/-! # plain proofs: what is common -/
theorem pyIx_mem {α : Type} {xs : List α} {v : Int} (h0 : 0 ≤ v) (h1 : v < xs.length) : ∃ d, pyIx xs v = some d ∧ d ∈ xs := by
  unfold pyIx
  rw [if_pos h0]
  have : v.toNat < xs.length := by omega
  exact ⟨xs[v.toNat], List.getElem?_eq_getElem this, List.getElem_mem this⟩
theorem lcL_map {g : MG} {tt : MT} {te : ME} {e : En} {c : Option Nat} {all : List Dx} {f : Dx → Dx} {s : Sto} (st : stands c all s) : ∀ xs : List Dx, (∀ x ∈ xs, ∃ e1, g x e s = some e1 ∧ tt e1 s = .ok true s ∧ te e1 s = .ok (f x) s) → lcL g tt te e c all xs s = .ok (xs.map f) s
  | [], _ => by unfold lcL; rw [if_pos st]; rfl
  | x :: xs, h => by
    obtain ⟨e1, h1, h2, h3⟩ := h x List.mem_cons_self
    have ih := lcL_map st xs fun y hy => h y (List.mem_cons_of_mem _ hy)
    unfold lcL
    rw [if_pos st, h1]
    simp [h2, h3, ih]
theorem lcL_inv {g : MG} {tt : MT} {te : ME} {e : En} {c : Option Nat} {all : List Dx} {P : Sto → Prop} {R : Dx → Prop} (st : ∀ s, P s → stands c all s) : ∀ xs : List Dx, (∀ x ∈ xs, ∀ s, P s → ∃ e1 y s1, g x e s = some e1 ∧ tt e1 s = .ok true s ∧ te e1 s = .ok y s1 ∧ P s1 ∧ R y) →
    ∀ s, P s → ∃ ys s1, lcL g tt te e c all xs s = .ok ys s1 ∧ P s1 ∧ ys.length = xs.length ∧ ∀ y ∈ ys, R y
  | [], _, s, p => ⟨[], s, by unfold lcL; rw [if_pos (st s p)], p, rfl, fun _ hy => by cases hy⟩
  | x :: xs, h, s, p => by
    obtain ⟨e1, y, s1, h1, h2, h3, p1, r⟩ := h x List.mem_cons_self s p
    obtain ⟨ys, s2, h4, p2, hl, hr⟩ := lcL_inv st xs (fun y hy => h y (List.mem_cons_of_mem _ hy)) s1 p1
    refine ⟨y :: ys, s2, ?_, p2, by simp [hl], fun q hq => (List.mem_cons.mp hq).elim (fun z => z ▸ r) (hr q)⟩
    unfold lcL
    rw [if_pos (st s p), h1]
    simp [h2, h3, h4]
theorem forL_post {g : MG} {b : MS} {c : Option Nat} {all : List Dx} {P : En → Sto → Prop} {Z : S → Prop} (st : ∀ e s, P e s → stands c all s) (hz : ∀ e s, P e s → Z (.nx e s)) : ∀ xs : List Dx, (∀ x ∈ xs, ∀ e s, P e s → ∃ e1, g x e s = some e1 ∧ (match b e1 s with
    | .nx e2 s2 => P e2 s2
    | .ct e2 s2 => P e2 s2
    | .bk e2 s2 => Z (.nx e2 s2)
    | r => Z r)) → ∀ e s, P e s → Z (forL g b c all xs e s)
  | [], _, e, s, p => by unfold forL; rw [if_pos (st e s p)]; exact hz e s p
  | x :: xs, h, e, s, p => by
    obtain ⟨e1, h1, h2⟩ := h x List.mem_cons_self e s p
    have ih := forL_post st hz xs fun y hy => h y (List.mem_cons_of_mem _ hy)
    unfold forL
    rw [if_pos (st e s p), h1]
    cases hb : b e1 s with
    | nx e2 s2 => simp only [hb] at h2 ⊢; exact ih _ _ h2
    | ct e2 s2 => simp only [hb] at h2 ⊢; exact ih _ _ h2
    | bk e2 s2 => simp only [hb] at h2 ⊢; exact h2
    | rt v s2 => simp only [hb] at h2 ⊢; exact h2
    | exc C fs e2 s2 => simp only [hb] at h2 ⊢; exact h2
    | stuck => simp only [hb] at h2 ⊢; exact h2
theorem rng_len (lo : Int) (n : Nat) : (rng lo n).length = n := by simp [rng]
theorem rng_mem {lo : Int} {n : Nat} {x : Dx} (h : x ∈ rng lo n) : ∃ i : Nat, i < n ∧ x = .int (lo + i) := by
  unfold rng at h
  obtain ⟨i, h1, rfl⟩ := List.mem_map.mp h
  exact ⟨i, List.mem_range.mp h1, rfl⟩
def toR : S → R Dx
  | .nx _ s => .ok .non s
  | .rt v s => .ok v s
  | .exc C f _ s => .exc C f s
  | _ => .stuck
theorem mk_R {k n : Nat} {b : MS} {ds : List Dx} {s : Sto} {P : R Dx → Prop} (hl : ds.length = k) (h : P (toR (b ⟨env0 n ds, [], none⟩ s))) : P (mkF k n b ds s) := by
  have e : mkF k n b ds s = toR (b ⟨env0 n ds, [], none⟩ s) := by
    unfold mkF
    rw [if_pos hl]
    cases b ⟨env0 n ds, [], none⟩ s <;> rfl
  rw [e]; exact h
@[simp] theorem at0 {α : Type} (s0 : List α) (z : α) (l : List α) : (s0 ++ z :: l)[s0.length]? = some z := by simp
@[simp] theorem set0 {α : Type} (s0 : List α) (z y : α) (l : List α) : (s0 ++ z :: l).set s0.length y = s0 ++ y :: l := by simp
/-- a state of the drawing numbers -/
def IsSt (z : Cl) : Prop := ∃ a b c : Int, z = .lst [.int a, .int b, .int c]
/-- what isinstance can tell -/
def Known (s : Sto) : Dx → Bool
  | .fro _ => false
  | .cls _ => false
  | .ty _ => false
  | .cell n => (s[n]?).isSome
  | _ => true
def isW : Dx → Bool
  | .int _ => true
  | _ => false
def letters : Tx := tx "abcdefghijklmnopqrstuvwxyz"
def nameB (z : Tx) : Bool := decide (z ≠ []) && (decide (z.length ≤ 8) && z.all fun c => decide (c ∈ letters))
def nameD : Dx → Bool
  | .str z => nameB z
  | _ => false
def shortD : Dx → Prop
  | .str z => z.length ≤ most
  | _ => True
theorem bools_map {α : Type} (f : α → Bool) (g : α → Dx) (h : ∀ x, g x = .bl (f x)) : ∀ xs : List α, dBools (xs.map g) = some (xs.map f)
  | [] => rfl
  | x :: xs => by simp [h, bools_map f g h xs]
theorem cut_to {α : Type} (z : List α) (n : Int) (h : 0 ≤ n) : cut z none (some n) = z.take n.toNat := by
  unfold cut sIx
  have : ¬ n < 0 := by omega
  simp only [this, if_false, List.drop_zero, Nat.sub_zero]
  rw [List.take_eq_take_iff]; omega
theorem cut_from {α : Type} (z : List α) (n : Int) (h : 0 ≤ n) : cut z (some n) none = z.drop n.toNat := by
  unfold cut sIx
  have : ¬ n < 0 := by omega
  simp only [this, if_false]
  by_cases hl : n.toNat ≤ z.length
  · rw [Nat.min_eq_left hl, List.take_of_length_le]
    rw [List.length_drop]; exact Nat.le_refl _
  · rw [Nat.min_eq_right (by omega), List.drop_length, List.drop_eq_nil_of_le (by omega)]
    simp
theorem nameB_of {z : Tx} (h0 : z ≠ []) (h8 : z.length ≤ 8) (h : ∀ c ∈ z, c ∈ letters) : nameB z = true := by
  unfold nameB
  simp only [Bool.and_eq_true, decide_eq_true_eq, List.all_eq_true]
  exact ⟨h0, h8, h⟩
theorem nameB_len {z : Tx} (h : nameB z = true) : z ≠ [] ∧ z.length ≤ 8 ∧ ∀ c ∈ z, c ∈ letters := by
  unfold nameB at h
  simpa only [Bool.and_eq_true, decide_eq_true_eq, List.all_eq_true] using h
theorem strs_map {α : Type} (f : α → Tx) (g : α → Dx) (h : ∀ x, g x = .str (f x)) : ∀ xs : List α, dStrs (xs.map g) = some (xs.map f)
  | [] => rfl
  | x :: xs => by simp [h, strs_map f g h xs]
/-- texts of one letter each -/
theorem one_strs : ∀ {ys : List Dx}, (∀ y ∈ ys, ∃ c, c ∈ letters ∧ y = .str [c]) → ∃ zs : List Tx, dStrs ys = some zs ∧ zs.length = ys.length ∧ ∀ z ∈ zs, ∃ c, c ∈ letters ∧ z = [c]
  | [], _ => ⟨[], rfl, rfl, fun _ h => by cases h⟩
  | y :: ys, h => by
    obtain ⟨c, hc, rfl⟩ := h y List.mem_cons_self
    obtain ⟨zs, h1, h2, h3⟩ := one_strs fun q hq => h q (List.mem_cons_of_mem _ hq)
    refine ⟨[c] :: zs, by simp [h1], by simp [h2], fun z hz => ?_⟩
    rcases List.mem_cons.mp hz with rfl | hz
    · exact ⟨c, hc, rfl⟩
    · exact h3 z hz
theorem one_join : ∀ {zs : List Tx}, (∀ z ∈ zs, ∃ c, c ∈ letters ∧ z = [c]) → (joinT [] zs).length = zs.length ∧ (∀ c ∈ joinT [] zs, c ∈ letters) ∧ (zs.map (·.length)).sum = zs.length
  | [], _ => ⟨rfl, (fun _ h => by cases h), rfl⟩
  | z :: zs, h => by
    have flat : ∀ {zs : List Tx}, (∀ z ∈ zs, ∃ c, c ∈ letters ∧ z = [c]) → ((zs.map fun y => [] ++ y).flatten).length = zs.length ∧ (∀ c ∈ (zs.map fun y => [] ++ y).flatten, c ∈ letters) ∧ (zs.map (·.length)).sum = zs.length := by
      intro zs
      induction zs with
      | nil => exact fun _ => ⟨rfl, (fun _ h => by cases h), rfl⟩
      | cons z zs ih =>
        intro h
        obtain ⟨c, hc, rfl⟩ := h z List.mem_cons_self
        obtain ⟨h1, h2, h3⟩ := ih fun q hq => h q (List.mem_cons_of_mem _ hq)
        refine ⟨by simp at h1 ⊢; omega, fun q hq => ?_, by simp at h3 ⊢; omega⟩
        rw [List.map_cons, List.flatten_cons] at hq
        rcases List.mem_append.mp hq with hq | hq
        · simp at hq; subst hq; exact hc
        · exact h2 q hq
    obtain ⟨h1, h2, h3⟩ := flat h
    have e : joinT [] (z :: zs) = ((z :: zs).map fun y => [] ++ y).flatten := by simp [joinT]
    rw [e]
    exact ⟨h1, h2, h3⟩
/-! ## isinstance of what is known -/
def isA (s : Sto) (X : String) (d : Dx) : Bool := (isCl s X d).getD false
def isB (s : Sto) (b : String) (d : Dx) : Bool := (isTy s b d).getD false
theorem isCl_known {s : Sto} {d : Dx} (h : Known s d = true) (X : String) : isCl s X d = some (isA s X d) := by
  unfold isA
  cases d with
  | cell n =>
    simp only [Known] at h
    cases hs : s[n]? with
    | none => rw [hs] at h; cases h
    | some c => cases c <;> simp [isCl, hs]
  | _ => first
    | (simp [Known] at h; done)
    | simp [isCl]
theorem isTy_known {s : Sto} {d : Dx} (h : Known s d = true) (b : String) : isTy s b d = some (isB s b d) := by
  unfold isB
  cases d with
  | cell n =>
    simp only [Known] at h
    cases hs : s[n]? with
    | none => rw [hs] at h; cases h
    | some c => cases c <;> simp [isTy, hs]
  | _ => first
    | (simp [Known] at h; done)
    | simp [isTy]
def isN : Dx → Bool
  | .non => true
  | _ => false
theorem isND_known {s : Sto} {d : Dx} (h : Known s d = true) : isND d .non s = .ok (.bl (isN d)) s := by
  cases d with
  | _ => first
    | (simp [Known] at h; done)
    | simp [isN]
theorem isB_bl {s : Sto} {d : Dx} (h : Known s d = true) (k : isB s "bool" d = true) : ∃ b, d = .bl b := by
  cases d with
  | bl b => exact ⟨b, rfl⟩
  | cell n =>
    simp only [Known] at h
    cases hs : s[n]? with
    | none => rw [hs] at h; cases h
    | some c => cases c <;> simp [isB, isTy, hs] at k
  | _ => simp [isB, isTy] at k
/-- a list of the heap -/
theorem isB_list {s : Sto} {d : Dx} (h : Known s d = true) : isB s "list" d = (asM s d).isSome := by
  cases d with
  | cell n =>
    simp only [Known] at h
    cases hs : s[n]? with
    | none => rw [hs] at h; cases h
    | some c => cases c <;> simp [isB, isTy, asM, hs]
  | _ => first
    | (simp [Known] at h; done)
    | simp [isB, isTy, asM]
def namesL (xs : List Dx) : Bool := match dStrs xs with
  | some zs => zs.all nameB && decide zs.Nodup
  | none => false
def namesD (s : Sto) (d : Dx) : Bool := match asM s d with
  | some xs => namesL xs
  | none => false
theorem all_names : ∀ xs : List Dx, (xs.all nameD = true → ∃ zs, dStrs xs = some zs ∧ zs.all nameB = true ∧ zs.length = xs.length) ∧ (xs.all nameD = false → ∀ zs, dStrs xs = some zs → zs.all nameB = false)
  | [] => ⟨fun _ => ⟨[], rfl, rfl, rfl⟩, fun h => by cases h⟩
  | x :: xs => by
    obtain ⟨h1, h2⟩ := all_names xs
    refine ⟨fun h => ?_, fun h zs hz => ?_⟩
    · simp only [List.all_cons, Bool.and_eq_true] at h
      obtain ⟨zs, a, b, c⟩ := h1 h.2
      cases x with
      | str z => exact ⟨z :: zs, by simp [a], by simp only [List.all_cons, Bool.and_eq_true]; exact ⟨h.1, b⟩, by simp [c]⟩
      | _ => cases h.1
    · cases x with
      | str z =>
        simp only [dStrs, Option.map_eq_some_iff] at hz
        obtain ⟨l, hl, rfl⟩ := hz
        rw [List.all_cons] at h ⊢
        cases hn : nameB z with
        | false => rfl
        | true =>
          have hn2 : nameD (.str z) = true := hn
          rw [hn2, Bool.true_and] at h
          rw [h2 h l hl]; rfl
      | _ => cases hz
theorem eqv_strs : ∀ {xs : List Dx} {zs : List Tx}, dStrs xs = some zs → xs = zs.map Dx.str
  | [], zs, h => by cases h; rfl
  | .str z :: xs, zs, h => by
    simp only [dStrs, Option.map_eq_some_iff] at h
    obtain ⟨l, hl, rfl⟩ := h
    rw [eqv_strs hl]; rfl
  | .non :: _, _, h => by cases h
  | .bl _ :: _, _, h => by cases h
  | .int _ :: _, _, h => by cases h
  | .tup _ :: _, _, h => by cases h
  | .lst _ :: _, _, h => by cases h
  | .fro _ :: _, _, h => by cases h
  | .dct :: _, _, h => by cases h
  | .obj _ _ :: _, _, h => by cases h
  | .cell _ :: _, _, h => by cases h
  | .cls _ :: _, _, h => by cases h
  | .ty _ :: _, _, h => by cases h
theorem shp_strs (zs : List Tx) : shp 40 (.lst (zs.map Dx.str)) = true := by simp [shp, List.all_map, Function.comp_def]
theorem eqvL_strs : ∀ (a b : List Tx), eqvL (a.map Dx.str) (b.map Dx.str) = decide (a = b)
  | [], [] => rfl
  | [], _ :: _ => rfl
  | _ :: _, [] => rfl
  | x :: a, y :: b => by
    simp only [List.map_cons, eqvL, eqv, eqvL_strs a b]
    by_cases h : x = y <;> simp [h]
theorem res_asM {s : Sto} {d : Dx} {xs : List Dx} (h : asM s d = some xs) : res s d = .lst xs := by
  cases d with
  | lst ys => cases h; rfl
  | cell n =>
    simp only [asM] at h
    cases hs : s[n]? with
    | none => simp [hs] at h
    | some c => cases c <;> simp [hs] at h; subst h; simp [res, hs]
  | _ => cases h
/-- lists of texts compared -/
theorem eqD_strs {s : Sto} {x y : Dx} {a b : List Tx} (h : asM s x = some (a.map Dx.str)) (k : asM s y = some (b.map Dx.str)) : eqD x y s = .ok (.bl (decide (a = b))) s := by
  unfold eqD
  rw [res_asM h, res_asM k, shp_strs, shp_strs]
  simp only [Bool.and_self, if_true, eqv, eqvL_strs]
theorem neD_strs {s : Sto} {x y : Dx} {a b : List Tx} (h : asM s x = some (a.map Dx.str)) (k : asM s y = some (b.map Dx.str)) : neD x y s = .ok (.bl (!decide (a = b))) s := by
  unfold neD
  rw [res_asM h, res_asM k, shp_strs, shp_strs]
  simp only [Bool.and_self, if_true, eqv, eqvL_strs]
theorem asL_asM {s : Sto} {d : Dx} {xs : List Dx} (h : asM s d = some xs) : asL s d = some xs := by
  cases d with
  | lst ys => exact h
  | cell n => exact h
  | _ => cases h
theorem asQ_asM {s : Sto} {d : Dx} {xs : List Dx} (h : asM s d = some xs) : asQ s d = some xs := by
  cases d with
  | lst ys => exact h
  | cell n => exact h
  | _ => cases h
/-- walking a list, its length, its likes -/
theorem wD_asM {s : Sto} {d : Dx} {xs : List Dx} {a : ME} {e : En} (h : asM s d = some xs) (k : a e s = .ok d s) : ∃ c, wD a e s = .ok (xs, c) s ∧ stands c xs s := by
  unfold wD
  rw [k]
  cases d with
  | lst ys => cases h; exact ⟨none, rfl, trivial⟩
  | cell n =>
    simp only [asM] at h
    cases hs : s[n]? with
    | none => simp [hs] at h
    | some c => cases c <;> simp [hs] at h; subst h; exact ⟨some n, by simp [hs], hs⟩
  | _ => cases h
theorem lenD_asM {s : Sto} {d : Dx} {xs : List Dx} (h : asM s d = some xs) : lenD [d] s = .ok (.int xs.length) s := by
  cases d with
  | lst ys => cases h; rfl
  | cell n => rw [lenD_cell, asQ_asM h]
  | _ => cases h
theorem lenSetD_asM {s : Sto} {d : Dx} {xs : List Dx} {zs : List Tx} (h : asM s d = some xs) (k : dStrs xs = some zs) (l : zs.length ≤ 2000) : lenSetD [d] s = .ok (.int (unlike zs)) s := by
  cases d with
  | lst ys => cases h; simp [k, l]
  | cell n => rw [lenSetD_cell, asL_asM h]; simp [k, l]
  | _ => cases h
theorem listD_asM {s : Sto} {d : Dx} {xs : List Dx} {c : Bool} (h : asM s d = some xs) : listD c [d] s = newL c xs s := by
  cases d with
  | lst ys => cases h; rfl
  | cell n => rw [listD_cell, asQ_asM h]
  | _ => cases h
def ge (k : Int) : Dx → Bool
  | .int i => decide (k ≤ i)
  | _ => false
theorem isW_int {d : Dx} (h : isW d = true) : ∃ i, d = .int i := by
  cases d with
  | int i => exact ⟨i, rfl⟩
  | _ => cases h
theorem ge_no {d : Dx} {k : Int} (h : isW d = false) : ge k d = false := by
  cases d with
  | int i => cases h
  | _ => rfl
theorem forL_idx {g : MG} {b : MS} {c : Option Nat} {all : List Dx} {P : Nat → En → Sto → Prop} {Z : S → Prop} (st : ∀ i e s, P i e s → stands c all s) : ∀ (xs : List Dx) (n : Nat), (∀ e s, P (n + xs.length) e s → Z (.nx e s)) → (∀ x ∈ xs, ∀ i e s, i < n + xs.length → P i e s → ∃ e1, g x e s = some e1 ∧ (match b e1 s with
    | .nx e2 s2 => P (i + 1) e2 s2
    | .ct e2 s2 => P (i + 1) e2 s2
    | .bk e2 s2 => Z (.nx e2 s2)
    | r => Z r)) → ∀ e s, P n e s → Z (forL g b c all xs e s)
  | [], n, hz, _, e, s, p => by unfold forL; rw [if_pos (st n e s p)]; exact hz e s p
  | x :: xs, n, hz, h, e, s, p => by
    obtain ⟨e1, h1, h2⟩ := h x List.mem_cons_self n e s (by rw [List.length_cons]; omega) p
    have ih := forL_idx st xs (n + 1) (fun e s q => hz e s (by rw [List.length_cons]; rw [Nat.add_right_comm, Nat.add_assoc] at q; exact q)) fun y hy i e s hi => h y (List.mem_cons_of_mem _ hy) i e s (by rw [List.length_cons]; omega)
    unfold forL
    rw [if_pos (st n e s p), h1]
    cases hb : b e1 s with
    | nx e2 s2 => simp only [hb] at h2 ⊢; exact ih _ _ h2
    | ct e2 s2 => simp only [hb] at h2 ⊢; exact ih _ _ h2
    | bk e2 s2 => simp only [hb] at h2 ⊢; exact h2
    | rt v s2 => simp only [hb] at h2 ⊢; exact h2
    | exc C fs e2 s2 => simp only [hb] at h2 ⊢; exact h2
    | stuck => simp only [hb] at h2 ⊢; exact h2
@[simp] theorem atN {α : Type} (s0 : List α) (z : α) (l : List α) (c : α) : (s0 ++ z :: (l ++ [c]))[s0.length + (l.length + 1)]? = some c := by
  rw [List.getElem?_append_right (by omega), show s0.length + (l.length + 1) - s0.length = l.length + 1 from by omega]
  simp
@[simp] theorem setN {α : Type} (s0 : List α) (z : α) (l : List α) (c d : α) : (s0 ++ z :: (l ++ [c])).set (s0.length + (l.length + 1)) d = s0 ++ z :: (l ++ [d]) := by
  rw [List.set_append_right _ _ (by omega), show s0.length + (l.length + 1) - s0.length = l.length + 1 from by omega]
  simp
theorem flat_strs (zs : List Tx) : (zs.map Dx.str).all flat = true := by simp [List.all_map, flat, Function.comp_def]
theorem any_strs (v : Tx) (zs : List Tx) : ((zs.map Dx.str).any fun y => eqv y (.str v)) = decide (v ∈ zs) := by
  induction zs with
  | nil => rfl
  | cons z zs ih =>
    rw [List.map_cons, List.any_cons, ih]
    simp only [eqv]
    by_cases h : z = v
    · subst h; simp
    · have : ¬ v = z := fun q => h q.symm
      by_cases h2 : v ∈ zs <;> simp [h, this, h2]
theorem inD_names {s : Sto} {n : Nat} {v : Tx} {zs : List Tx} (neg : Bool) (h : s[n]? = some (.lst (zs.map Dx.str))) : inD neg (.str v) (.cell n) s = .ok (.bl (neg != decide (v ∈ zs))) s := by
  rw [inD_cell, asQ_cell, h]
  simp only [flat_strs, any_strs, flat, Bool.and_self, if_true]
/-- what comes of a loop's step -/
def OkStep (P : En → Sto → Prop) (Z : S → Prop) : S → Prop
  | .nx e2 s2 => P e2 s2
  | .ct e2 s2 => P e2 s2
  | .bk e2 s2 => Z (.nx e2 s2)
  | r => Z r
@[simp] theorem okStep_nx (P : En → Sto → Prop) (Z : S → Prop) (e : En) (s : Sto) : OkStep P Z (.nx e s) = P e s := rfl
@[simp] theorem okStep_ct (P : En → Sto → Prop) (Z : S → Prop) (e : En) (s : Sto) : OkStep P Z (.ct e s) = P e s := rfl
@[simp] theorem okStep_rt (P : En → Sto → Prop) (Z : S → Prop) (v : Dx) (s : Sto) : OkStep P Z (.rt v s) = Z (.rt v s) := rfl
theorem forL_ok {g : MG} {b : MS} {c : Option Nat} {all : List Dx} {P : En → Sto → Prop} {Z : S → Prop} (st : ∀ e s, P e s → stands c all s) (hz : ∀ e s, P e s → Z (.nx e s)) (xs : List Dx) (h : ∀ x ∈ xs, ∀ e s, P e s → ∃ e1, g x e s = some e1 ∧ OkStep P Z (b e1 s)) (e : En) (s : Sto) (p : P e s) : Z (forL g b c all xs e s) :=
  forL_post st hz xs (fun x hx e s p => by
    obtain ⟨e1, h1, h2⟩ := h x hx e s p
    refine ⟨e1, h1, ?_⟩
    cases hb : b e1 s <;> rw [hb] at h2 <;> exact h2) e s p
theorem forL_okI {g : MG} {b : MS} {c : Option Nat} {all : List Dx} {P : Nat → En → Sto → Prop} {Z : S → Prop} (st : ∀ i e s, P i e s → stands c all s) (xs : List Dx) (hz : ∀ e s, P xs.length e s → Z (.nx e s)) (h : ∀ x ∈ xs, ∀ i e s, i < xs.length → P i e s → ∃ e1, g x e s = some e1 ∧ OkStep (P (i + 1)) Z (b e1 s)) (e : En) (s : Sto) (p : P 0 e s) : Z (forL g b c all xs e s) :=
  forL_idx st xs 0 (fun e s p => hz e s (by rw [Nat.zero_add] at p; exact p)) (fun x hx i e s hi p => by
    obtain ⟨e1, h1, h2⟩ := h x hx i e s (by omega) p
    refine ⟨e1, h1, ?_⟩
    cases hb : b e1 s <;> rw [hb] at h2 <;> exact h2) e s p
theorem namesL_bad {xs : List Dx} {x : Dx} (h : x ∈ xs) (k : nameD x = false) : namesL xs = false := by
  have ha : xs.all nameD = false := by
    rw [Bool.eq_false_iff]
    intro q
    rw [List.all_eq_true] at q
    rw [q x h] at k
    cases k
  unfold namesL
  cases hz : dStrs xs with
  | none => rfl
  | some zs => simp [(all_names xs).2 ha zs hz]
theorem strs_strs (zs : List Tx) : dStrs (zs.map Dx.str) = some zs := by
  have := strs_map (fun z : Tx => z) Dx.str (fun _ => rfl) zs
  rw [this, List.map_id']
theorem namesL_dup {zs : List Tx} (h : ¬ zs.Nodup) : namesL (zs.map Dx.str) = false := by
  unfold namesL
  rw [strs_strs]
  simp [h]
theorem namesL_ok {zs : List Tx} (h : ∀ z ∈ zs, nameB z = true) (k : zs.Nodup) : namesL (zs.map Dx.str) = true := by
  unfold namesL
  rw [strs_strs]
  simp only [Bool.and_eq_true, List.all_eq_true, decide_eq_true_eq]
  exact ⟨h, k⟩
/-- a list's items that isinstance can tell, texts not too long -/
def RdOk (s : Sto) (xs : List Dx) : Prop := xs.length ≤ 2000 ∧ ∀ x ∈ xs, Known s x = true ∧ shortD x
theorem rdOk_names {s : Sto} {zs : List Tx} (h : ∀ z ∈ zs, nameB z = true) (k : zs.length ≤ 2000) : RdOk s (zs.map Dx.str) := by
  refine ⟨by simpa using k, fun x hx => ?_⟩
  obtain ⟨z, hz, rfl⟩ := List.mem_map.mp hx
  exact ⟨rfl, Nat.le_trans (nameB_len (h z hz)).2.1 (by decide)⟩
end Pm
namespace Pm
/-- a well of drawing numbers -/
def IsW (z : Cl) : Prop := ∃ a b c d : Int, z = .lst [.int a, .int b, .int c, .int d]
end Pm
namespace Pm
/-! ## while -/
def OkW (P : Nat → En → Sto → Prop) (j : Nat) (Z : S → Prop) : S → Prop
  | .nx e2 s2 => ∃ i, i < j ∧ P i e2 s2
  | .ct e2 s2 => ∃ i, i < j ∧ P i e2 s2
  | .bk e2 s2 => Z (.nx e2 s2)
  | r => Z r
@[simp] theorem okW_nx (P : Nat → En → Sto → Prop) (j : Nat) (Z : S → Prop) (e : En) (s : Sto) : OkW P j Z (.nx e s) = ∃ i, i < j ∧ P i e s := rfl
@[simp] theorem okW_rt (P : Nat → En → Sto → Prop) (j : Nat) (Z : S → Prop) (v : Dx) (s : Sto) : OkW P j Z (.rt v s) = Z (.rt v s) := rfl
theorem whileL_ok {t : MT} {b : MS} {P : Nat → En → Sto → Prop} {Z : S → Prop} (h : ∀ j e s, P j e s → (∃ s1, t e s = .ok false s1 ∧ Z (.nx e s1)) ∨ ∃ s1, t e s = .ok true s1 ∧ OkW P j Z (b e s1)) : ∀ n j e s, j < n → P j e s → Z (whileL t b n e s)
  | 0, j, e, s, hj, _ => by omega
  | n + 1, j, e, s, hj, p => by
    unfold whileL
    rcases h j e s p with ⟨s1, h1, h2⟩ | ⟨s1, h1, h2⟩
    · rw [h1]; exact h2
    · rw [h1]
      simp only [s_ok, if_true]
      cases hb : b e s1 with
      | nx e2 s2 => rw [hb] at h2; obtain ⟨i, hi, q⟩ := h2; exact whileL_ok h n i e2 s2 (by omega) q
      | ct e2 s2 => rw [hb] at h2; obtain ⟨i, hi, q⟩ := h2; exact whileL_ok h n i e2 s2 (by omega) q
      | bk e2 s2 => rw [hb] at h2; exact h2
      | rt v s2 => rw [hb] at h2; exact h2
      | exc C fs e2 s2 => rw [hb] at h2; exact h2
      | stuck => rw [hb] at h2; exact h2
/-! ## quiet hours -/
def QD (q : Dx) : Prop := q = .non ∨ ∃ a b : Int, q = .tup [.int a, .int b] ∧ 0 ≤ a ∧ a < 1440 ∧ 0 ≤ b ∧ b < 1440 ∧ a ≠ b
def quietAt : Dx → Int → Bool
  | .tup [.int a, .int b], i => if a < b then decide (a ≤ i) && decide (i < b) else decide (a ≤ i) || decide (i < b)
  | _, _ => false
def marks (q : Dx) : List Dx := (List.range 1440).map fun (i : Nat) => Dx.bl (quietAt q i)
theorem pick {α : Type} {xs : List α} {v : Int} {P : α → Prop} (h0 : 0 ≤ v) (h1 : v < xs.length) (h : ∀ x ∈ xs, P x) : ∃ d, pyIx xs v = some d ∧ P d := by
  obtain ⟨d, a, b⟩ := pyIx_mem h0 h1
  exact ⟨d, a, h d b⟩
end Pm
namespace Pm
theorem strD_small {i : Int} {s : Sto} (h1 : -1000000000000000000000000000000 ≤ i) (h2 : i ≤ 1000000000000000000000000000000) : strD [.int i] s = .ok (.str (txI i)) s := by
  rw [strD_i, if_pos ⟨Int.le_trans (by decide) h1, Int.le_trans h2 (by decide)⟩]
end Pm
namespace Pm
theorem forL_at {g : MG} {b : MS} {c : Option Nat} {all : List Dx} {P : Nat → En → Sto → Prop} {Z : S → Prop} (st : ∀ i e s, P i e s → stands c all s) : ∀ (xs : List Dx) (n : Nat), (∀ e s, P (n + xs.length) e s → Z (.nx e s)) → (∀ i x, xs[i]? = some x → ∀ e s, P (n + i) e s → ∃ e1, g x e s = some e1 ∧ OkStep (P (n + i + 1)) Z (b e1 s)) → ∀ e s, P n e s → Z (forL g b c all xs e s)
  | [], n, hz, _, e, s, p => by unfold forL; rw [if_pos (st n e s p)]; exact hz e s p
  | x :: xs, n, hz, h, e, s, p => by
    obtain ⟨e1, h1, h2⟩ := h 0 x rfl e s p
    have ih := forL_at st xs (n + 1) (fun e s q => hz e s (by rw [List.length_cons]; rw [Nat.add_right_comm, Nat.add_assoc] at q; exact q)) fun i y hy e s q => by
      obtain ⟨e1, h1, h2⟩ := h (i + 1) y hy e s (by rw [Nat.add_right_comm, Nat.add_assoc] at q; exact q)
      exact ⟨e1, h1, by rw [show n + 1 + i + 1 = n + (i + 1) + 1 from by omega]; exact h2⟩
    unfold forL
    rw [if_pos (st n e s p), h1]
    cases hb : b e1 s with
    | nx e2 s2 => rw [hb] at h2; simp only [hb]; exact ih _ _ h2
    | ct e2 s2 => rw [hb] at h2; simp only [hb]; exact ih _ _ h2
    | bk e2 s2 => rw [hb] at h2; simp only [hb]; exact h2
    | rt v s2 => rw [hb] at h2; simp only [hb]; exact h2
    | exc C fs e2 s2 => rw [hb] at h2; simp only [hb]; exact h2
    | stuck => rw [hb] at h2; simp only [hb]; exact h2
theorem forL_okX {g : MG} {b : MS} {c : Option Nat} {all : List Dx} {P : Nat → En → Sto → Prop} {Z : S → Prop} (st : ∀ i e s, P i e s → stands c all s) (xs : List Dx) (hz : ∀ e s, P xs.length e s → Z (.nx e s)) (h : ∀ i x, xs[i]? = some x → ∀ e s, P i e s → ∃ e1, g x e s = some e1 ∧ OkStep (P (i + 1)) Z (b e1 s)) (e : En) (s : Sto) (p : P 0 e s) : Z (forL g b c all xs e s) :=
  forL_at st xs 0 (fun e s p => hz e s (by rw [Nat.zero_add] at p; exact p)) (fun i x hx e s p => by
    rw [Nat.zero_add] at p
    obtain ⟨e1, h1, h2⟩ := h i x hx e s p
    exact ⟨e1, h1, by rw [Nat.zero_add]; exact h2⟩) e s p
theorem rng_at {lo : Int} {n i : Nat} {x : Dx} (h : (rng lo n)[i]? = some x) : i < n ∧ x = .int (lo + i) := by
  unfold rng at h
  rw [List.getElem?_map, Option.map_eq_some_iff] at h
  obtain ⟨j, h1, h2⟩ := h
  have hi : i < n := by
    have := (List.getElem?_eq_some_iff.mp h1).1
    simpa using this
  rw [List.getElem?_range hi] at h1
  cases h1
  exact ⟨hi, h2.symm⟩
end Pm
namespace Pm
theorem lcL_filter {α : Type} {g : MG} {tt : MT} {te : ME} {e : En} {c : Option Nat} {all : List Dx} {s : Sto} {em f : α → Dx} {p : α → Bool} (st : stands c all s) : ∀ xs : List α, (∀ x ∈ xs, ∃ e1, g (em x) e s = some e1 ∧ tt e1 s = .ok (p x) s ∧ (p x = true → te e1 s = .ok (f x) s)) → lcL g tt te e c all (xs.map em) s = .ok ((xs.filter p).map f) s
  | [], _ => by rw [List.map_nil]; unfold lcL; rw [if_pos st]; rfl
  | x :: xs, h => by
    obtain ⟨e1, h1, h2, h3⟩ := h x List.mem_cons_self
    have ih := lcL_filter (f := f) st xs fun y hy => h y (List.mem_cons_of_mem _ hy)
    rw [List.map_cons]
    unfold lcL
    rw [if_pos st, h1]
    cases hp : p x with
    | true => simp [h2, h3 hp, ih, hp]
    | false => simp [h2, ih, hp]
theorem lcL_all {α : Type} {g : MG} {te : ME} {e : En} {c : Option Nat} {all : List Dx} {s : Sto} {em f : α → Dx} (st : stands c all s) (xs : List α) (h : ∀ x ∈ xs, ∃ e1, g (em x) e s = some e1 ∧ te e1 s = .ok (f x) s) : lcL g uYes te e c all (xs.map em) s = .ok (xs.map f) s := by
  have := lcL_filter (tt := uYes) (te := te) (f := f) (p := fun _ => true) st xs (fun x hx => by
    obtain ⟨e1, h1, h2⟩ := h x hx
    exact ⟨e1, h1, rfl, fun _ => h2⟩)
  rw [this]
  congr 2
  exact List.filter_eq_self.mpr fun _ _ => rfl
/-- by places -/
theorem lcL_idx {g : MG} {te : ME} {e : En} {c : Option Nat} {all : List Dx} {P : Sto → Prop} {R : Nat → Dx → Prop} (st : ∀ s, P s → stands c all s) : ∀ (xs : List Dx) (n : Nat), (∀ i x, xs[i]? = some x → ∀ s, P s → ∃ e1 y s1, g x e s = some e1 ∧ te e1 s = .ok y s1 ∧ P s1 ∧ R (n + i) y) →
    ∀ s, P s → ∃ ys s1, lcL g uYes te e c all xs s = .ok ys s1 ∧ P s1 ∧ ys.length = xs.length ∧ ∀ i y, ys[i]? = some y → R (n + i) y
  | [], _, _, s, p => ⟨[], s, by unfold lcL; rw [if_pos (st s p)], p, rfl, fun _ _ hy => by simp at hy⟩
  | x :: xs, n, h, s, p => by
    obtain ⟨e1, y, s1, h1, h3, p1, r⟩ := h 0 x rfl s p
    obtain ⟨ys, s2, h4, p2, hl, hr⟩ := lcL_idx st xs (n + 1) (fun i y hy s p => by
      obtain ⟨e1, y, s1, h1, h3, p1, r⟩ := h (i + 1) y hy s p
      exact ⟨e1, y, s1, h1, h3, p1, by rw [show n + 1 + i = n + (i + 1) from by omega]; exact r⟩) s1 p1
    refine ⟨y :: ys, s2, ?_, p2, by simp [hl], fun i q hq => ?_⟩
    · unfold lcL
      rw [if_pos (st s p), h1]
      simp [h3, h4]
    · cases i with
      | zero => cases hq; exact r
      | succ i => rw [show n + (i + 1) = n + 1 + i from by omega]; exact hr i q hq
theorem ints_map {α : Type} (f : α → Int) (g : α → Dx) (h : ∀ x, g x = .int (f x)) : ∀ xs : List α, dInts (xs.map g) = some (xs.map f)
  | [] => rfl
  | x :: xs => by simp [h, ints_map f g h xs]
theorem leastOf_le : ∀ (l : List Int) (i : Int), leastOf i l ≤ i ∧ ∀ x ∈ l, leastOf i l ≤ x
  | [], i => ⟨Int.le_refl _, fun _ h => by cases h⟩
  | j :: l, i => by
    unfold leastOf
    by_cases h : j < i
    · rw [if_pos h]
      obtain ⟨h1, h2⟩ := leastOf_le l j
      exact ⟨by omega, fun x hx => (List.mem_cons.mp hx).elim (fun e => e ▸ h1) (h2 x)⟩
    · rw [if_neg h]
      obtain ⟨h1, h2⟩ := leastOf_le l i
      exact ⟨h1, fun x hx => (List.mem_cons.mp hx).elim (fun e => by rw [e]; omega) (h2 x)⟩
theorem leastOf_mem : ∀ (l : List Int) (i : Int), leastOf i l = i ∨ leastOf i l ∈ l
  | [], i => .inl rfl
  | j :: l, i => by
    unfold leastOf
    by_cases h : j < i
    · rw [if_pos h]
      rcases leastOf_mem l j with h1 | h1
      · rw [h1]; exact .inr List.mem_cons_self
      · exact .inr (List.mem_cons_of_mem _ h1)
    · rw [if_neg h]
      rcases leastOf_mem l i with h1 | h1
      · exact .inl h1
      · exact .inr (List.mem_cons_of_mem _ h1)
def leastL : List Int → Int
  | [] => 0
  | i :: l => leastOf i l
theorem leastL_spec {l : List Int} (h : l ≠ []) : leastL l ∈ l ∧ ∀ x ∈ l, leastL l ≤ x := by
  cases l with
  | nil => exact absurd rfl h
  | cons i l =>
    obtain ⟨h1, h2⟩ := leastOf_le l i
    refine ⟨?_, fun x hx => (List.mem_cons.mp hx).elim (fun e => e ▸ h1) (h2 x)⟩
    rcases leastOf_mem l i with q | q
    · show leastOf i l ∈ _; rw [q]; exact List.mem_cons_self
    · exact List.mem_cons_of_mem _ q
theorem leastL_eq {l : List Int} {m : Int} (h : m ∈ l) (k : ∀ x ∈ l, m ≤ x) : leastL l = m := by
  obtain ⟨h1, h2⟩ := leastL_spec (l := l) (fun e => by rw [e] at h; cases h)
  have := h2 m h
  have := k _ h1
  omega
theorem minD_ints {l : List Int} (h : l ≠ []) (s : Sto) : minD [.lst (l.map Dx.int)] s = .ok (.int (leastL l)) s := by
  rw [minD_lst, ints_map id Dx.int (fun _ => rfl), List.map_id]
  cases l with
  | nil => exact absurd rfl h
  | cons i l => rfl
theorem range_filter {α : Type} (p : α → Bool) (f : α → Dx) (d : α) (xs : List α) : ((List.range xs.length).filter fun k => p (xs.getD k d)).map (fun k => f (xs.getD k d)) = (xs.filter p).map f := by
  have e : xs = (List.range xs.length).map fun k => xs.getD k d := by
    apply List.ext_getElem
    · simp
    · intro i h1 h2
      simp [List.getElem?_eq_getElem h1]
  have e2 : (xs.filter p).map f = ((((List.range xs.length).map fun k => xs.getD k d)).filter p).map f := by rw [← e]
  rw [e2, List.filter_map, List.map_map]
  rfl
end Pm
namespace Pm
theorem eqD_nil {xs : List Dx} {s : Sto} (h : xs.all (shp 39) = true) : eqD (.lst xs) (.lst []) s = .ok (.bl xs.isEmpty) s := by
  unfold eqD
  rw [show res s (.lst xs) = .lst xs from rfl, show res s (.lst []) = .lst [] from rfl, show shp 40 (.lst xs) = true from h, show shp 40 (.lst []) = true from rfl]
  cases xs <;> simp [eqv, eqvL]
theorem ints_of {p : Int → Prop} : ∀ {ys : List Dx}, (∀ y ∈ ys, ∃ i : Int, y = .int i ∧ p i) → ∃ is : List Int, ys = is.map Dx.int ∧ ∀ i ∈ is, p i
  | [], _ => ⟨[], rfl, fun _ h => by cases h⟩
  | y :: ys, h => by
    obtain ⟨i, rfl, hp⟩ := h y List.mem_cons_self
    obtain ⟨is, rfl, k⟩ := ints_of fun q hq => h q (List.mem_cons_of_mem _ hq)
    exact ⟨i :: is, rfl, fun j hj => (List.mem_cons.mp hj).elim (fun e => e ▸ hp) (k j)⟩
end Pm
namespace Pm
/-! ## trees of fits -/
inductive Tr where
  | any | weight (i : Int) | kind (ns : List Tx) | place (ns : List Tx) | not (t : Tr) | both (ts : List Tr) | either (ts : List Tr)
mutual
def Tr.dx : Tr → Dx
  | .any => .tup [.str (tx "any")]
  | .weight i => .tup [.str (tx "weight"), .int i]
  | .kind ns => .tup [.str (tx "kind"), .tup (ns.map Dx.str)]
  | .place ns => .tup [.str (tx "place"), .tup (ns.map Dx.str)]
  | .not t => .tup [.str (tx "not"), t.dx]
  | .both ts => .tup [.str (tx "both"), .tup (dxL ts)]
  | .either ts => .tup [.str (tx "either"), .tup (dxL ts)]
def dxL : List Tr → List Dx
  | [] => []
  | t :: ts => t.dx :: dxL ts
end
theorem dxL_map : ∀ ts : List Tr, dxL ts = ts.map Tr.dx
  | [] => rfl
  | t :: ts => by rw [dxL, dxL_map ts]; rfl
mutual
/-- the fit that it tells of -/
def Tr.fitO : Tr → Dx
  | .any => .obj "Any" []
  | .weight i => .obj "Least" [("weight", .int i)]
  | .kind ns => .obj "Kind" [("names", .lst (ns.map Dx.str))]
  | .place ns => .obj "Place" [("names", .lst (ns.map Dx.str))]
  | .not t => .obj "Not" [("fit", t.fitO)]
  | .both ts => .obj "Both" [("fits", .lst (fitL ts))]
  | .either ts => .obj "Either" [("fits", .lst (fitL ts))]
def fitL : List Tr → List Dx
  | [] => []
  | t :: ts => t.fitO :: fitL ts
end
theorem fitL_map : ∀ ts : List Tr, fitL ts = ts.map Tr.fitO
  | [] => rfl
  | t :: ts => by rw [fitL, fitL_map ts]; rfl
mutual
def Tr.holds (k p : Tx) (w : Int) : Tr → Bool
  | .any => true
  | .weight i => decide (i ≤ w)
  | .kind ns => decide (k ∈ ns)
  | .place ns => decide (p ∈ ns)
  | .not t => !t.holds k p w
  | .both ts => allT k p w ts
  | .either ts => anyT k p w ts
def allT (k p : Tx) (w : Int) : List Tr → Bool
  | [] => true
  | t :: ts => t.holds k p w && allT k p w ts
def anyT (k p : Tx) (w : Int) : List Tr → Bool
  | [] => false
  | t :: ts => t.holds k p w || anyT k p w ts
end
theorem allT_all {k p : Tx} {w : Int} : ∀ ts : List Tr, allT k p w ts = ts.all (Tr.holds k p w)
  | [] => rfl
  | t :: ts => by rw [allT, allT_all ts]; rfl
theorem anyT_any {k p : Tx} {w : Int} : ∀ ts : List Tr, anyT k p w ts = ts.any (Tr.holds k p w)
  | [] => rfl
  | t :: ts => by rw [anyT, anyT_any ts]; rfl
def NmL (ns : List Tx) : Prop := (∀ z ∈ ns, nameB z = true) ∧ ns.Nodup ∧ ns ≠ []
/-- so deep at most, of so many names and weights -/
def Tr.Ok : Nat → Nat → Tr → Prop
  | _, b, .any => 1 ≤ b
  | _, b, .weight i => (0 ≤ i ∧ i < 1000000) ∧ 1 ≤ b
  | _, b, .kind ns => NmL ns ∧ ns.length ≤ b
  | _, b, .place ns => NmL ns ∧ ns.length ≤ b
  | 0, _, .not _ => False
  | 0, _, .both _ => False
  | 0, _, .either _ => False
  | d + 1, b, .not t => Tr.Ok d b t
  | d + 1, b, .both ts => 2 ≤ ts.length ∧ ts.length ≤ 10 ∧ ∃ c, ts.length * c ≤ b ∧ ∀ t ∈ ts, Tr.Ok d c t
  | d + 1, b, .either ts => 2 ≤ ts.length ∧ ts.length ≤ 10 ∧ ∃ c, ts.length * c ≤ b ∧ ∀ t ∈ ts, Tr.Ok d c t
theorem Tr.Ok.more : ∀ {d b : Nat} {t : Tr}, Tr.Ok d b t → ∀ {b' : Nat}, b ≤ b' → Tr.Ok d b' t
  | _, _, .any, h, _, hb => by unfold Tr.Ok at h ⊢; exact Nat.le_trans h hb
  | _, _, .weight i, h, _, hb => by unfold Tr.Ok at h ⊢; exact ⟨h.1, Nat.le_trans h.2 hb⟩
  | _, _, .kind ns, h, _, hb => by unfold Tr.Ok at h ⊢; exact ⟨h.1, Nat.le_trans h.2 hb⟩
  | _, _, .place ns, h, _, hb => by unfold Tr.Ok at h ⊢; exact ⟨h.1, Nat.le_trans h.2 hb⟩
  | 0, _, .not _, h, _, _ => by unfold Tr.Ok at h; exact h.elim
  | 0, _, .both _, h, _, _ => by unfold Tr.Ok at h; exact h.elim
  | 0, _, .either _, h, _, _ => by unfold Tr.Ok at h; exact h.elim
  | d + 1, _, .not t, h, _, hb => by unfold Tr.Ok at h ⊢; exact Tr.Ok.more h hb
  | d + 1, _, .both ts, h, _, hb => by
    unfold Tr.Ok at h ⊢
    obtain ⟨h1, h2, c, h3, h4⟩ := h
    exact ⟨h1, h2, c, Nat.le_trans h3 hb, h4⟩
  | d + 1, _, .either ts, h, _, hb => by
    unfold Tr.Ok at h ⊢
    obtain ⟨h1, h2, c, h3, h4⟩ := h
    exact ⟨h1, h2, c, Nat.le_trans h3 hb, h4⟩
theorem Tr.Ok.deeper : ∀ {d b : Nat} {t : Tr}, Tr.Ok d b t → Tr.Ok (d + 1) b t
  | _, _, .any, h => by unfold Tr.Ok at h ⊢; exact h
  | _, _, .weight i, h => by unfold Tr.Ok at h ⊢; exact h
  | _, _, .kind ns, h => by unfold Tr.Ok at h ⊢; exact h
  | _, _, .place ns, h => by unfold Tr.Ok at h ⊢; exact h
  | 0, _, .not _, h => by unfold Tr.Ok at h; exact h.elim
  | 0, _, .both _, h => by unfold Tr.Ok at h; exact h.elim
  | 0, _, .either _, h => by unfold Tr.Ok at h; exact h.elim
  | d + 1, _, .not t, h => by unfold Tr.Ok at h ⊢; exact Tr.Ok.deeper h
  | d + 1, _, .both ts, h => by
    unfold Tr.Ok at h ⊢
    obtain ⟨h1, h2, c, h3, h4⟩ := h
    exact ⟨h1, h2, c, h3, fun t ht => (h4 t ht).deeper⟩
  | d + 1, _, .either ts, h => by
    unfold Tr.Ok at h ⊢
    obtain ⟨h1, h2, c, h3, h4⟩ := h
    exact ⟨h1, h2, c, h3, fun t ht => (h4 t ht).deeper⟩
theorem Tr.Ok.deep {d b : Nat} {t : Tr} (h : Tr.Ok d b t) : ∀ {d' : Nat}, d ≤ d' → Tr.Ok d' b t := fun {d'} hd => by
  obtain ⟨k, rfl⟩ : ∃ k, d' = d + k := ⟨d' - d, by omega⟩
  clear hd
  induction k with
  | zero => exact h
  | succ k ih => exact ih.deeper
def hapO (k p : Tx) (w : Int) : Dx := .obj "Happening" [("kind", .str k), ("place", .str p), ("weight", .int w)]
def thingD (k p : Tx) (w : Int) : Dx := .tup [.str k, .str p, .int w]
theorem trees_of {p : Tr → Prop} : ∀ {ys : List Dx}, (∀ y ∈ ys, ∃ t : Tr, y = t.dx ∧ p t) → ∃ ts : List Tr, ys = ts.map Tr.dx ∧ ∀ t ∈ ts, p t
  | [], _ => ⟨[], rfl, fun _ h => by cases h⟩
  | y :: ys, h => by
    obtain ⟨r, rfl, hp⟩ := h y List.mem_cons_self
    obtain ⟨rs, rfl, k⟩ := trees_of fun q hq => h q (List.mem_cons_of_mem _ hq)
    exact ⟨r :: rs, rfl, fun j hj => (List.mem_cons.mp hj).elim (fun e => e ▸ hp) (k j)⟩
end Pm
namespace Pm
/-! ## one turn of a while -/
theorem whileL_nx {t : MT} {b : MS} {n : Nat} {e e' : En} {s s' : Sto} (ht : t e s = .ok true s) (hb : b e s = .nx e' s') : whileL t b (n + 1) e s = whileL t b n e' s' := by
  conv => lhs; unfold whileL
  rw [ht]
  simp [hb]
theorem whileL_exc {t : MT} {b : MS} {n : Nat} {e e' : En} {s s' : Sto} {C : String} {fs : Fs} (ht : t e s = .ok true s) (hb : b e s = .exc C fs e' s') : whileL t b (n + 1) e s = .exc C fs e' s' := by
  unfold whileL
  rw [ht]
  simp [hb]
theorem whileL_stop {t : MT} {b : MS} {n : Nat} {e : En} {s : Sto} (ht : t e s = .ok false s) : whileL t b (n + 1) e s = .nx e s := by
  unfold whileL
  rw [ht]
  simp
theorem whileL_bk {t : MT} {b : MS} {n : Nat} {e e' : En} {s s' : Sto} (ht : t e s = .ok true s) (hb : b e s = .bk e' s') : whileL t b (n + 1) e s = .nx e' s' := by
  unfold whileL
  rw [ht]
  simp [hb]
theorem whileL_rt {t : MT} {b : MS} {n : Nat} {e : En} {s s' : Sto} {v : Dx} (ht : t e s = .ok true s) (hb : b e s = .rt v s') : whileL t b (n + 1) e s = .rt v s' := by
  unfold whileL
  rw [ht]
  simp [hb]
theorem asM_app {s : Sto} {d : Dx} {xs : List Dx} (h : asM s d = some xs) (l : Sto) : asM (s ++ l) d = some xs := by
  cases d with
  | lst ys => exact h
  | cell n =>
    simp only [asM] at h ⊢
    cases hs : s[n]? with
    | none => simp [hs] at h
    | some c =>
      have hn : n < s.length := (List.getElem?_eq_some_iff.mp hs).1
      rw [List.getElem?_append_left hn, hs]
      rw [hs] at h
      exact h
  | _ => cases h
theorem ixD_asM {s : Sto} {d x : Dx} {xs : List Dx} {i : Int} (h : asM s d = some xs) (k : pyIx xs i = some x) : ixD d (.int i) s = .ok x s := by
  have q := asQ_asM h
  cases d with
  | lst ys => cases h; simp [k]
  | cell n =>
    show (match asQ s (Dx.cell n) with
      | some xs => (match pyIx xs i with | some d => R.ok d s | none => R.stuck)
      | none => R.stuck) = _
    rw [q]
    simp [k]
  | _ => cases h
end Pm

namespace Mo
open Pm
theorem fitO_obj (t : Tr) : ∃ C fs, t.fitO = .obj C fs ∧ isSub C "Fit" = true := by
  cases t <;> exact ⟨_, _, rfl, by decide +kernel⟩
end Mo

namespace Mo
open Pm
/-! # words of texts, what they write: no program in sight -/
/-- the words of a text -/
def wordsOf (z : Tx) : List Tx := splT (tx " ") 0 [] z
def figW (w : Tx) : Tx := if (w.take 1 == tx "-") = true then w.drop 1 else w
def figOk (f : Tx) : Bool := decide (f ≠ []) && (decide (f.length ≤ 60) && f.all fun c => decide (c ∈ tx "0123456789"))
/-- the number that a word writes -/
def numW (w : Tx) : Option Int := if figOk (figW w) = true ∧ ((figW w).head? ≠ some 48 ∨ w = tx "0") then intOf w else none
theorem fig_mem {c : Nat} : c ∈ tx "0123456789" ↔ 48 ≤ c ∧ c ≤ 57 := by
  rw [show tx "0123456789" = [48, 49, 50, 51, 52, 53, 54, 55, 56, 57] from rfl]
  simp
  omega
theorem figOk_figs {f : Tx} (h : figOk f = true) : figs f = true ∧ f ≠ [] ∧ f.length ≤ 60 := by
  unfold figOk at h
  simp only [Bool.and_eq_true, decide_eq_true_eq, List.all_eq_true] at h
  obtain ⟨h1, h2, h3⟩ := h
  refine ⟨?_, h1, h2⟩
  unfold figs
  simp only [Bool.and_eq_true, Bool.not_eq_true', List.isEmpty_eq_false_iff, List.all_eq_true, decide_eq_true_eq]
  exact ⟨h1, fun c hc => fig_mem.mp (h3 c hc)⟩
theorem numW_some {w : Tx} (h : figOk (figW w) = true ∧ ((figW w).head? ≠ some 48 ∨ w = tx "0")) : ∃ i, intOf w = some i ∧ w.length ≤ 61 := by
  obtain ⟨h1, h2, h3⟩ := figOk_figs h.1
  unfold figW at h1 h2 h3
  split at h1
  · rename_i hc
    rw [if_pos hc] at h2 h3
    have hc : w.take 1 = [45] := by
      rw [show tx "-" = [45] from rfl] at hc
      simpa using hc
    cases w with
    | nil => cases hc
    | cons c r =>
      simp at hc
      subst hc
      simp at h1 h2 h3
      refine ⟨-(numT r : Int), ?_, by simp; omega⟩
      unfold intOf
      have hn : figs (45 :: r) = false := by simp [figs]
      simp [hn, h1]
  · rename_i hc
    rw [if_neg hc] at h2 h3
    exact ⟨numT w, by unfold intOf; rw [if_pos h1], by omega⟩
theorem numW_num {n : Nat} (h : n < 10 ^ 60) : numW (txI (n : Int)) = some (n : Int) := by
  rw [txI_num]
  have hd := TL.numL_digits n
  have hne := TL.numL_ne n
  have hl := TL.numL_len (by decide) h
  have h45 : ¬ ((TL.numL n).take 1 == tx "-") = true := fun q => by
    have q : (TL.numL n).take 1 = [45] := by
      rw [show tx "-" = [45] from rfl] at q
      simpa using q
    have : (45 : Nat) ∈ TL.numL n := List.mem_of_mem_take (by rw [q]; simp : (45 : Nat) ∈ (TL.numL n).take 1)
    have := hd 45 this
    omega
  have hf : figW (TL.numL n) = TL.numL n := by unfold figW; rw [if_neg h45]
  have ho : figOk (TL.numL n) = true := by
    unfold figOk
    simp only [Bool.and_eq_true, decide_eq_true_eq, List.all_eq_true]
    exact ⟨hne, hl, fun c hc => fig_mem.mpr (hd c hc)⟩
  have hi : intOf (TL.numL n) = some (n : Int) := by
    unfold intOf
    rw [if_pos (figOk_figs ho).1, numT_val, TL.numL_val]
  have hc : (TL.numL n).head? ≠ some 48 ∨ TL.numL n = tx "0" := by
    by_cases h10 : n < 10
    · rw [TL.numL_lt h10]
      by_cases h0 : n = 0
      · subst h0; exact .inr rfl
      · left; simp; omega
    · left
      have : ∀ m : Nat, 1 ≤ m → (TL.numL m).head? ≠ some 48 := by
        intro m
        induction m using Nat.strongRecOn with
        | _ m ih =>
          intro h1
          by_cases hm : m < 10
          · rw [TL.numL_lt hm]; simp; omega
          · rw [TL.numL_step (by omega)]
            have q := ih (m / 10) (by omega) (by omega)
            cases hq : TL.numL (m / 10) with
            | nil => exact absurd hq (TL.numL_ne _)
            | cons c l => rw [hq] at q; simpa using q
      exact this n (by omega)
  unfold numW
  rw [hf, if_pos ⟨ho, hc⟩, hi]
/-! ## texts joined and cut -/
theorem spl_word (w : Tx) (h : 32 ∉ w) : ∀ (acc r : Tx), splT [32] 0 acc (w ++ r) = splT [32] 0 (acc ++ w) r := by
  induction w with
  | nil => intro acc r; simp
  | cons c w ih =>
    intro acc r
    have hc : c ≠ 32 := fun q => h (by rw [q]; exact List.mem_cons_self)
    rw [List.cons_append]
    conv => lhs; unfold splT
    simp [hc]
    rw [ih (fun q => h (List.mem_cons_of_mem _ q))]
    simp
theorem words_join (ws : List Tx) (h : ∀ w ∈ ws, 32 ∉ w) (hne : ws ≠ []) : wordsOf (joinT (tx " ") ws) = ws := by
  show splT [32] 0 [] (joinT [32] ws) = ws
  have flat : ∀ (ws : List Tx), (∀ w ∈ ws, 32 ∉ w) → ∀ acc : Tx, splT [32] 0 acc ((ws.map fun y => [32] ++ y).flatten) = acc :: ws := by
    intro ws
    induction ws with
    | nil => intro _ acc; rfl
    | cons w ws ih =>
      intro h acc
      rw [List.map_cons, List.flatten_cons, List.singleton_append, List.cons_append]
      conv => lhs; unfold splT
      simp
      rw [spl_word w (h w List.mem_cons_self), List.nil_append]
      exact ih (fun x hx => h x (List.mem_cons_of_mem _ hx)) w
  cases ws with
  | nil => exact absurd rfl hne
  | cons w ws =>
    unfold joinT
    rw [spl_word w (h w List.mem_cons_self), List.nil_append]
    exact flat ws (fun x hx => h x (List.mem_cons_of_mem _ hx)) w
theorem join_app (s : Tx) {a b : List Tx} (ha : a ≠ []) (hb : b ≠ []) : joinT s (a ++ b) = joinT s a ++ (s ++ joinT s b) := by
  cases a with
  | nil => exact absurd rfl ha
  | cons x a => cases b with
    | nil => exact absurd rfl hb
    | cons y b => simp [joinT]
theorem spl_small (S : Tx) : ∀ (l : Tx) (k : Nat) (acc : Tx) (w : Tx), w ∈ splT S k acc l → w.length ≤ acc.length + l.length
  | [], k, acc, w, h => by
    have h : w ∈ [acc] := by cases k <;> exact h
    rw [List.mem_singleton.mp h]; simp
  | c :: r, 0, acc, w, h => by
    unfold splT at h
    split at h
    · rcases List.mem_cons.mp h with rfl | h
      · simp
      · have := spl_small S r _ [] w h
        simp at this ⊢; omega
    · have := spl_small S r 0 (acc ++ [c]) w h
      simp at this ⊢; omega
  | c :: r, k + 1, acc, w, h => by
    unfold splT at h
    have := spl_small S r k acc w h
    simp at this ⊢; omega
/-! ## what words write -/
def pLoop (P : List Tx → Option (Tr × List Tx)) (sign : Tx) : Nat → List Tr → List Tx → Option (List Tr × List Tx)
  | 0, _, _ => none
  | f + 1, acc, r => match P r with
    | none => none
    | some (_, []) => none
    | some (t, b :: r') => if b = sign then pLoop P sign f (acc ++ [t]) r' else if b = tx ")" then some (acc ++ [t], r') else none
def pSev (P : List Tx → Option (Tr × List Tx)) (r : List Tx) : Option (Tr × List Tx) := match P r with
  | none => none
  | some (_, []) => none
  | some (t, b :: r') => if b = tx "&" ∨ b = tx "|" then (match pLoop P b (r'.length + 1) [t] r' with
    | some (ts, r2) => some (if b = tx "&" then .both ts else .either ts, r2)
    | none => none) else none
def pNames (f : List Tx → Tr) (r : List Tx) : Option (Tr × List Tx) := if r.takeWhile nameB ≠ [] ∧ (r.takeWhile nameB).Nodup then some (f (r.takeWhile nameB), r.drop (r.takeWhile nameB).length) else none
def pWeight : List Tx → Option (Tr × List Tx)
  | [] => none
  | x :: r => match numW x with
    | some i => if 0 ≤ i then some (.weight i, r) else none
    | none => none
/-- the fit that words write, so deep yet, and what is left -/
def pFit : Nat → List Tx → Option (Tr × List Tx)
  | 0, _ => none
  | _ + 1, [] => none
  | d + 1, w :: r => if w = tx "any" then some (.any, r) else if w = tx "kind" then pNames .kind r else if w = tx "place" then pNames .place r else if w = tx "weight" then pWeight r
    else if w = tx "not" then (match pFit d r with
      | some (t, r2) => some (.not t, r2)
      | none => none) else if w = tx "(" then pSev (pFit d) r else none
/-! ## what is taken -/
def okW (w : Tx) : Prop := w ≠ [] ∧ 10 ∉ w ∧ w ≠ tx ":"
theorem okW_word {z : String} (h : (tx z).all (fun c => decide (c ≠ 10)) = true) (h1 : tx z ≠ []) (h2 : tx z ≠ tx ":") : okW (tx z) := ⟨h1, fun q => by have := List.all_eq_true.mp h 10 q; exact absurd this (by decide), h2⟩
theorem okW_name {w : Tx} (h : nameB w = true) : okW w := by
  obtain ⟨h1, _, h3⟩ := nameB_len h
  have hl : ∀ c ∈ letters, 97 ≤ c := by decide
  refine ⟨h1, fun q => ?_, fun q => ?_⟩
  · have := hl _ (h3 10 q); omega
  · subst q
    have := hl _ (h3 58 (by decide)); omega
theorem okW_num {w : Tx} {i : Int} (h : numW w = some i) : okW w := by
  unfold numW at h
  split at h
  · rename_i hc
    obtain ⟨hf, h1, _⟩ := figOk_figs hc.1
    have hd : ∀ c ∈ figW w, 48 ≤ c ∧ c ≤ 57 := fun c q => by
      unfold figs at hf
      rw [Bool.and_eq_true] at hf
      simpa using List.all_eq_true.mp hf.2 c q
    unfold figW at hd h1
    split at hd
    · rename_i h45
      have h45 : w.take 1 = [45] := by
        rw [show tx "-" = [45] from rfl] at h45
        simpa using h45
      cases w with
      | nil => cases h45
      | cons c r =>
        simp at h45
        subst h45
        simp only [List.drop_succ_cons, List.drop_zero] at hd
        refine ⟨List.cons_ne_nil _ _, fun q => ?_, fun q => ?_⟩
        · rcases List.mem_cons.mp q with q | q
          · cases q
          · have := hd 10 q; omega
        · rw [show tx ":" = [58] from rfl] at q
          cases q
    · rename_i h45
      rw [if_neg h45] at h1
      refine ⟨h1, fun q => ?_, fun q => ?_⟩
      · have := hd 10 q; omega
      · subst q
        have := hd 58 (by decide); omega
  · cases h
def Took (r r' : List Tx) : Prop := ∃ c, r = c ++ r' ∧ c ≠ [] ∧ ∀ w ∈ c, okW w
theorem Took.trans {a b c : List Tx} (h : Took a b) (k : Took b c) : Took a c := by
  obtain ⟨x, rfl, h1, h2⟩ := h
  obtain ⟨y, rfl, k1, k2⟩ := k
  exact ⟨x ++ y, by simp, by simp [h1], fun w hw => (List.mem_append.mp hw).elim (h2 w) (k2 w)⟩
theorem Took.one {w : Tx} {r : List Tx} (h : okW w) : Took (w :: r) r := ⟨[w], rfl, by simp, fun x hx => by rw [List.mem_singleton.mp hx]; exact h⟩
theorem Took.lt {r r' : List Tx} (h : Took r r') : r'.length < r.length := by
  obtain ⟨c, rfl, h1, _⟩ := h
  have := List.length_pos_iff.mpr h1
  simp; omega
theorem okW_and : okW (tx "&") := okW_word (by decide) (by decide) (by decide)
theorem okW_or : okW (tx "|") := okW_word (by decide) (by decide) (by decide)
theorem okW_end : okW (tx ")") := okW_word (by decide) (by decide) (by decide)
theorem pLoop_took {P : List Tx → Option (Tr × List Tx)} (CON : ∀ r t r', P r = some (t, r') → Took r r') {sign : Tx} (hs : okW sign) : ∀ (f : Nat) (acc : List Tr) (r : List Tx) (ts : List Tr) (r' : List Tx), pLoop P sign f acc r = some (ts, r') → Took r r'
  | 0, _, _, _, _, h => by cases h
  | f + 1, acc, r, ts, r', h => by
    unfold pLoop at h
    cases hp : P r with
    | none => rw [hp] at h; cases h
    | some tr =>
      obtain ⟨t, r1⟩ := tr
      rw [hp] at h
      have c1 := CON _ _ _ hp
      cases r1 with
      | nil => cases h
      | cons b r2 =>
        simp only at h
        split at h
        · rename_i hb; subst hb
          exact c1.trans ((Took.one hs).trans (pLoop_took CON hs f _ _ _ _ h))
        · split at h
          · rename_i hb
            cases h
            exact c1.trans (Took.one (by rw [hb]; exact okW_end))
          · cases h
theorem pSev_took {P : List Tx → Option (Tr × List Tx)} (CON : ∀ r t r', P r = some (t, r') → Took r r') (r : List Tx) (t : Tr) (r' : List Tx) (h : pSev P r = some (t, r')) : Took r r' := by
  unfold pSev at h
  cases hp : P r with
  | none => rw [hp] at h; cases h
  | some tr =>
    obtain ⟨t1, r1⟩ := tr
    rw [hp] at h
    have c1 := CON _ _ _ hp
    cases r1 with
    | nil => cases h
    | cons b r2 =>
      simp only at h
      split at h
      · rename_i hb
        have hs : okW b := by rcases hb with rfl | rfl; exact okW_and; exact okW_or
        cases hl : pLoop P b (r2.length + 1) [t1] r2 with
        | none => rw [hl] at h; cases h
        | some q =>
          obtain ⟨ts, r3⟩ := q
          rw [hl] at h
          cases h
          exact c1.trans ((Took.one hs).trans (pLoop_took CON hs _ _ _ _ _ hl))
      · cases h
theorem pNames_took {f : List Tx → Tr} {w : Tx} (hw : okW w) (r : List Tx) (t : Tr) (r' : List Tx) (h : pNames f r = some (t, r')) : Took (w :: r) r' := by
  unfold pNames at h
  split at h
  · cases h
    refine ⟨w :: r.takeWhile nameB, ?_, by simp, fun x hx => ?_⟩
    · have e : r = r.takeWhile nameB ++ r.dropWhile nameB := (List.takeWhile_append_dropWhile).symm
      have e2 : r.drop (r.takeWhile nameB).length = r.dropWhile nameB := by
        have q : (r.takeWhile nameB ++ r.dropWhile nameB).drop (r.takeWhile nameB).length = r.dropWhile nameB := List.drop_left ..
        rwa [List.takeWhile_append_dropWhile] at q
      rw [e2, List.cons_append, ← e]
    · rcases List.mem_cons.mp hx with rfl | hx
      · exact hw
      · have := List.all_eq_true.mp (List.all_takeWhile (p := nameB) (l := r)) x hx
        exact okW_name this
  · cases h
theorem pFit_took : ∀ (d : Nat) (r : List Tx) (t : Tr) (r' : List Tx), pFit d r = some (t, r') → Took r r'
  | 0, r, t, r', h => by cases r <;> cases h
  | d + 1, [], t, r', h => by cases h
  | d + 1, w :: r, t, r', h => by
    have ih := pFit_took d
    unfold pFit at h
    split at h
    · rename_i hw; cases h; subst hw; exact Took.one (okW_word (by decide) (by decide) (by decide))
    split at h
    · rename_i hw; subst hw; exact pNames_took (okW_word (by decide) (by decide) (by decide)) _ _ _ h
    split at h
    · rename_i hw; subst hw; exact pNames_took (okW_word (by decide) (by decide) (by decide)) _ _ _ h
    split at h
    · rename_i hw; subst hw
      cases r with
      | nil => cases h
      | cons x r =>
        simp only [pWeight] at h
        cases hn : numW x with
        | none => rw [hn] at h; cases h
        | some i =>
          rw [hn] at h
          simp only at h
          split at h
          · cases h
            exact (Took.one (okW_word (by decide) (by decide) (by decide))).trans (Took.one (okW_num hn))
          · cases h
    split at h
    · rename_i hw; subst hw
      cases hp : pFit d r with
      | none => rw [hp] at h; cases h
      | some q =>
        obtain ⟨t1, r1⟩ := q
        rw [hp] at h
        cases h
        exact (Took.one (okW_word (by decide) (by decide) (by decide))).trans (ih _ _ _ hp)
    split at h
    · rename_i hw; subst hw
      exact (Took.one (okW_word (by decide) (by decide) (by decide))).trans (pSev_took ih _ _ _ h)
    · cases h
/-! ## words of a tree -/
mutual
def wd : Tr → List Tx
  | .any => [tx "any"]
  | .weight i => [tx "weight", txI i]
  | .kind ns => tx "kind" :: ns
  | .place ns => tx "place" :: ns
  | .not t => tx "not" :: wd t
  | .both ts => tx "(" :: (wdL (tx "&") ts ++ [tx ")"])
  | .either ts => tx "(" :: (wdL (tx "|") ts ++ [tx ")"])
def wdL (sg : Tx) : List Tr → List Tx
  | [] => []
  | t :: ts => wd t ++ wdT sg ts
def wdT (sg : Tx) : List Tr → List Tx
  | [] => []
  | t :: ts => sg :: (wd t ++ wdT sg ts)
end
theorem wd_ne (t : Tr) : wd t ≠ [] := by cases t <;> simp [wd]
/-! ## a tree's words are read to it -/
/-- what may stand behind names -/
def Stop (r : List Tx) : Prop := r.takeWhile nameB = []
theorem stop_nil : Stop [] := rfl
theorem stop_cons {w : Tx} (h : nameB w = false) (r : List Tx) : Stop (w :: r) := by
  unfold Stop
  rw [List.takeWhile_cons_of_neg (by rw [h]; exact Bool.false_ne_true)]
theorem names_read {f : List Tx → Tr} {ns : List Tx} (h : NmL ns) {r : List Tx} (hr : Stop r) : pNames f (ns ++ r) = some (f ns, r) := by
  have e : (ns ++ r).takeWhile nameB = ns := by
    rw [List.takeWhile_append_of_pos (fun z hz => h.1 z hz), hr, List.append_nil]
  unfold pNames
  rw [e, if_pos ⟨h.2.2, h.2.1⟩, List.drop_left]
theorem seq_read {P : List Tx → Option (Tr × List Tx)} {sg : Tx} (hs1 : nameB sg = false) (hs2 : sg ≠ tx ")") : ∀ (ts : List Tr), (∀ t ∈ ts, ∀ r, Stop r → P (wd t ++ r) = some (t, r)) → ts ≠ [] → ∀ (f : Nat) (acc : List Tr) (r : List Tx), ts.length ≤ f →
    pLoop P sg f acc (wdL sg ts ++ tx ")" :: r) = some (acc ++ ts, r)
  | [], _, h, _, _, _, _ => absurd rfl h
  | t :: ts, h, _, 0, _, _, hf => by simp at hf
  | t :: ts, h, _, f + 1, acc, r, hf => by
    have ht := h t List.mem_cons_self
    have he : nameB (tx ")") = false := by decide +kernel
    unfold pLoop
    cases ts with
    | nil =>
      rw [wdL, wdT, List.append_nil, ht _ (stop_cons he r)]
      simp [Ne.symm hs2]
    | cons u us =>
      have ih := seq_read hs1 hs2 (u :: us) (fun t q => h t (List.mem_cons_of_mem _ q)) (by simp) f (acc ++ [t]) r (by simp at hf ⊢; omega)
      rw [wdL, wdT, List.append_assoc, List.cons_append, ht _ (stop_cons hs1 _)]
      simp
      rw [wdL] at ih
      simpa using ih
theorem pFit_wd : ∀ (d b : Nat) (t : Tr) (D : Nat) (r : List Tx), d < D → t.Ok d b → Stop r → pFit D (wd t ++ r) = some (t, r)
  | d, b, t, 0, r, h, _, _ => by omega
  | d, b, t, D + 1, r, h, ht, hr => by
    have sev : ∀ (sg : Tx) (ts : List Tr), (sg = tx "&" ∨ sg = tx "|") → 2 ≤ ts.length → (∀ t ∈ ts, ∀ r, Stop r → pFit D (wd t ++ r) = some (t, r)) → pSev (pFit D) (wdL sg ts ++ tx ")" :: r) = some (if sg = tx "&" then .both ts else .either ts, r) := fun sg ts hsg h2 hP => by
      have hs1 : nameB sg = false := by rcases hsg with rfl | rfl <;> decide +kernel
      have hs2 : sg ≠ tx ")" := by rcases hsg with rfl | rfl <;> simp [tx_inj]
      cases ts with
      | nil => simp at h2
      | cons t ts => cases ts with
        | nil => simp at h2
        | cons u us =>
          have hl := seq_read (P := pFit D) hs1 hs2 (u :: us) (fun t q => hP t (List.mem_cons_of_mem _ q)) (by simp) ((wdL sg (u :: us) ++ tx ")" :: r).length + 1) [t] r (by
            have wl : ∀ vs : List Tr, vs.length ≤ (wdT sg vs).length := fun vs => by
              induction vs with
              | nil => simp [wdT]
              | cons v vs ih => simp [wdT]; omega
            have := wl us
            have := List.length_pos_iff.mpr (wd_ne u)
            simp [wdL]; omega)
          unfold pSev
          have e : wdL sg (t :: u :: us) ++ tx ")" :: r = wd t ++ (sg :: (wdL sg (u :: us) ++ tx ")" :: r)) := by simp [wdL, wdT]
          rw [e, hP t List.mem_cons_self _ (stop_cons hs1 _)]
          simp only [if_pos hsg, hl]
          simp
    cases t with
    | any => simp [wd, pFit]
    | weight i =>
      unfold Tr.Ok at ht
      obtain ⟨n, rfl⟩ : ∃ n : Nat, i = n := ⟨i.toNat, by omega⟩
      have hn := numW_num (n := n) (by
        have : n < 1000000 := by omega
        exact Nat.lt_of_lt_of_le this (by decide))
      simp [wd, pFit, tx_inj, pWeight, hn]
    | kind ns =>
      unfold Tr.Ok at ht
      have e := names_read (f := .kind) ht.1 hr
      simp [wd, pFit, tx_inj, e]
    | place ns =>
      unfold Tr.Ok at ht
      have e := names_read (f := .place) ht.1 hr
      simp [wd, pFit, tx_inj, e]
    | not t =>
      cases d with
      | zero => unfold Tr.Ok at ht; exact ht.elim
      | succ d =>
        unfold Tr.Ok at ht
        have ih := pFit_wd d b t D r (by omega) ht hr
        simp [wd, pFit, tx_inj, ih]
    | both ts =>
      cases d with
      | zero => unfold Tr.Ok at ht; exact ht.elim
      | succ d =>
        unfold Tr.Ok at ht
        obtain ⟨h1, h2, c, h3, h4⟩ := ht
        have e := sev (tx "&") ts (.inl rfl) h1 (fun t q r hr => pFit_wd d c t D r (by omega) (h4 t q) hr)
        simp [wd, pFit, tx_inj, e]
    | either ts =>
      cases d with
      | zero => unfold Tr.Ok at ht; exact ht.elim
      | succ d =>
        unfold Tr.Ok at ht
        obtain ⟨h1, h2, c, h3, h4⟩ := ht
        have e := sev (tx "|") ts (.inr rfl) h1 (fun t q r hr => pFit_wd d c t D r (by omega) (h4 t q) hr)
        simp [wd, pFit, tx_inj, e]
/-! ## sizes -/
theorem wdT_len (f : Tr → Nat) (sg : Tx) : ∀ ts : List Tr, (wdT sg ts).length = (ts.map fun t => (wd t).length + 1).sum
  | [] => rfl
  | t :: ts => by rw [wdT, List.length_cons, List.length_append, wdT_len f sg ts]; simp; omega
theorem sum_le {ts : List Tr} {f : Tr → Nat} {m : Nat} (h : ∀ t ∈ ts, f t ≤ m) : (ts.map f).sum ≤ ts.length * m := by
  induction ts with
  | nil => simp
  | cons t ts ih =>
    have := h t List.mem_cons_self
    have := ih fun u hu => h u (List.mem_cons_of_mem _ hu)
    rw [List.map_cons, List.sum_cons, List.length_cons, Nat.succ_mul]; omega
theorem wdL_len (sg : Tx) (ts : List Tr) (h : ts ≠ []) : (wdL sg ts).length + 1 = (ts.map fun t => (wd t).length + 1).sum := by
  cases ts with
  | nil => exact absurd rfl h
  | cons t ts => rw [wdL, List.length_append, wdT_len (fun _ => 0)]; simp; omega
theorem wd_len : ∀ (d b : Nat) (t : Tr), t.Ok d b → (wd t).length + 1 ≤ (4 + d) * b ∧ 1 ≤ b
  | d, b, .any, h => by
    unfold Tr.Ok at h
    refine ⟨?_, h⟩
    have : 4 * b ≤ (4 + d) * b := Nat.mul_le_mul_right _ (by omega)
    simp [wd]; omega
  | d, b, .weight i, h => by
    unfold Tr.Ok at h
    refine ⟨?_, h.2⟩
    have : 4 * b ≤ (4 + d) * b := Nat.mul_le_mul_right _ (by omega)
    simp [wd]; omega
  | d, b, .kind ns, h => by
    unfold Tr.Ok at h
    have h1 : 1 ≤ ns.length := List.length_pos_iff.mpr h.1.2.2
    refine ⟨?_, by omega⟩
    have : 4 * b ≤ (4 + d) * b := Nat.mul_le_mul_right _ (by omega)
    simp [wd]; omega
  | d, b, .place ns, h => by
    unfold Tr.Ok at h
    have h1 : 1 ≤ ns.length := List.length_pos_iff.mpr h.1.2.2
    refine ⟨?_, by omega⟩
    have : 4 * b ≤ (4 + d) * b := Nat.mul_le_mul_right _ (by omega)
    simp [wd]; omega
  | 0, b, .not t, h => by unfold Tr.Ok at h; exact h.elim
  | 0, b, .both ts, h => by unfold Tr.Ok at h; exact h.elim
  | 0, b, .either ts, h => by unfold Tr.Ok at h; exact h.elim
  | d + 1, b, .not t, h => by
    unfold Tr.Ok at h
    obtain ⟨h1, h2⟩ := wd_len d b t h
    refine ⟨?_, h2⟩
    rw [show 4 + (d + 1) = (4 + d) + 1 from rfl, Nat.succ_mul]
    simp [wd]; omega
  | d + 1, b, .both ts, h => by
    unfold Tr.Ok at h
    obtain ⟨h1, h2, c, h3, h4⟩ := h
    have hs := sum_le (f := fun t => (wd t).length + 1) (m := (4 + d) * c) fun t ht => (wd_len d c t (h4 t ht)).1
    have hl := wdL_len (tx "&") ts (fun q => by rw [q] at h1; simp at h1)
    have h5 : ts.length * ((4 + d) * c) ≤ (4 + d) * b := by
      rw [Nat.mul_left_comm]
      exact Nat.mul_le_mul_left _ h3
    have hc : 1 ≤ c := by
      cases ts with
      | nil => simp at h1
      | cons t ts => exact (wd_len d c t (h4 t List.mem_cons_self)).2
    have hb : 2 ≤ b := by have := Nat.mul_le_mul h1 hc; omega
    refine ⟨?_, by omega⟩
    rw [show 4 + (d + 1) = (4 + d) + 1 from rfl, Nat.succ_mul]
    simp [wd]; omega
  | d + 1, b, .either ts, h => by
    unfold Tr.Ok at h
    obtain ⟨h1, h2, c, h3, h4⟩ := h
    have hs := sum_le (f := fun t => (wd t).length + 1) (m := (4 + d) * c) fun t ht => (wd_len d c t (h4 t ht)).1
    have hl := wdL_len (tx "|") ts (fun q => by rw [q] at h1; simp at h1)
    have h5 : ts.length * ((4 + d) * c) ≤ (4 + d) * b := by
      rw [Nat.mul_left_comm]
      exact Nat.mul_le_mul_left _ h3
    have hc : 1 ≤ c := by
      cases ts with
      | nil => simp at h1
      | cons t ts => exact (wd_len d c t (h4 t List.mem_cons_self)).2
    have hb : 2 ≤ b := by have := Nat.mul_le_mul h1 hc; omega
    refine ⟨?_, by omega⟩
    rw [show 4 + (d + 1) = (4 + d) + 1 from rfl, Nat.succ_mul]
    simp [wd]; omega
/-- short words without blanks -/
def W8 (w : Tx) : Prop := w.length ≤ 8 ∧ 32 ∉ w
theorem w8_name {w : Tx} (h : nameB w = true) : W8 w := by
  obtain ⟨_, h2, h3⟩ := nameB_len h
  have hl : ∀ c ∈ letters, 97 ≤ c := by decide
  exact ⟨h2, fun q => by have := hl _ (h3 32 q); omega⟩
theorem w8_num {n : Nat} (h : n < 1000000) : W8 (txI (n : Int)) := by
  rw [txI_num]
  have hl := TL.numL_len (k := 6) (by decide) (by omega : n < 10 ^ 6)
  exact ⟨by omega, TL.numL_free (.inl (by decide))⟩
theorem wd_w8 : ∀ (d b : Nat) (t : Tr), t.Ok d b → ∀ w ∈ wd t, W8 w := by
  have L : ∀ (sg : Tx), W8 sg → ∀ ts : List Tr, (∀ t ∈ ts, ∀ w ∈ wd t, W8 w) → (∀ w ∈ wdT sg ts, W8 w) ∧ ∀ w ∈ wdL sg ts, W8 w := fun sg hs ts => by
    induction ts with
    | nil => exact fun _ => ⟨fun w hw => (by rw [wdT] at hw; cases hw), fun w hw => (by rw [wdL] at hw; cases hw)⟩
    | cons t ts ih =>
      intro h
      have i1 := (ih fun u hu => h u (List.mem_cons_of_mem _ hu)).1
      refine ⟨fun w hw => ?_, fun w hw => ?_⟩
      · rw [wdT] at hw
        rcases List.mem_cons.mp hw with rfl | hw
        · exact hs
        · exact (List.mem_append.mp hw).elim (h t List.mem_cons_self w) (i1 w)
      · rw [wdL] at hw
        exact (List.mem_append.mp hw).elim (h t List.mem_cons_self w) (i1 w)
  intro d
  induction d with
  | zero =>
    intro b t ht w hw
    cases t with
    | any => rw [wd] at hw; rw [List.mem_singleton.mp hw]; exact ⟨by decide, by decide⟩
    | weight i =>
      unfold Tr.Ok at ht
      obtain ⟨n, rfl⟩ : ∃ n : Nat, i = n := ⟨i.toNat, by omega⟩
      rw [wd] at hw
      rcases List.mem_cons.mp hw with rfl | hw
      · exact ⟨by decide, by decide⟩
      · rw [List.mem_singleton.mp hw]; exact w8_num (by omega)
    | kind ns => unfold Tr.Ok at ht; rw [wd] at hw; rcases List.mem_cons.mp hw with rfl | hw; exact ⟨by decide, by decide⟩; exact w8_name (ht.1.1 w hw)
    | place ns => unfold Tr.Ok at ht; rw [wd] at hw; rcases List.mem_cons.mp hw with rfl | hw; exact ⟨by decide, by decide⟩; exact w8_name (ht.1.1 w hw)
    | _ => unfold Tr.Ok at ht; exact ht.elim
  | succ d ih =>
    intro b t ht w hw
    cases t with
    | any => rw [wd] at hw; rw [List.mem_singleton.mp hw]; exact ⟨by decide, by decide⟩
    | weight i =>
      unfold Tr.Ok at ht
      obtain ⟨n, rfl⟩ : ∃ n : Nat, i = n := ⟨i.toNat, by omega⟩
      rw [wd] at hw
      rcases List.mem_cons.mp hw with rfl | hw
      · exact ⟨by decide, by decide⟩
      · rw [List.mem_singleton.mp hw]; exact w8_num (by omega)
    | kind ns => unfold Tr.Ok at ht; rw [wd] at hw; rcases List.mem_cons.mp hw with rfl | hw; exact ⟨by decide, by decide⟩; exact w8_name (ht.1.1 w hw)
    | place ns => unfold Tr.Ok at ht; rw [wd] at hw; rcases List.mem_cons.mp hw with rfl | hw; exact ⟨by decide, by decide⟩; exact w8_name (ht.1.1 w hw)
    | not t =>
      unfold Tr.Ok at ht
      rw [wd] at hw
      rcases List.mem_cons.mp hw with rfl | hw
      · exact ⟨by decide, by decide⟩
      · exact ih b t ht w hw
    | both ts =>
      unfold Tr.Ok at ht
      obtain ⟨_, _, c, _, h4⟩ := ht
      rw [wd] at hw
      rcases List.mem_cons.mp hw with rfl | hw
      · exact ⟨by decide, by decide⟩
      · rcases List.mem_append.mp hw with hw | hw
        · exact (L _ ⟨by decide, by decide⟩ ts fun t ht => ih c t (h4 t ht)).2 w hw
        · rw [List.mem_singleton.mp hw]; exact ⟨by decide, by decide⟩
    | either ts =>
      unfold Tr.Ok at ht
      obtain ⟨_, _, c, _, h4⟩ := ht
      rw [wd] at hw
      rcases List.mem_cons.mp hw with rfl | hw
      · exact ⟨by decide, by decide⟩
      · rcases List.mem_append.mp hw with hw | hw
        · exact (L _ ⟨by decide, by decide⟩ ts fun t ht => ih c t (h4 t ht)).2 w hw
        · rw [List.mem_singleton.mp hw]; exact ⟨by decide, by decide⟩
/-- a tree's text -/
def trT (t : Tr) : Tx := joinT (tx " ") (wd t)
theorem join_len : ∀ ws : List Tx, (∀ w ∈ ws, w.length ≤ 8) → (joinT (tx " ") ws).length ≤ 9 * ws.length
  | [], _ => by simp [joinT]
  | w :: ws, h => by
    have f : ∀ vs : List Tx, (∀ w ∈ vs, w.length ≤ 8) → ((vs.map fun y => tx " " ++ y).flatten).length ≤ 9 * vs.length := fun vs => by
      induction vs with
      | nil => intro _; simp
      | cons v vs ih =>
        intro h
        have := h v List.mem_cons_self
        have := ih fun x hx => h x (List.mem_cons_of_mem _ hx)
        have e : (tx " ").length = 1 := rfl
        simp [e] at this ⊢; omega
    have := h w List.mem_cons_self
    have := f ws fun x hx => h x (List.mem_cons_of_mem _ hx)
    simp [joinT] at this ⊢; omega
theorem trT_len {d b : Nat} {t : Tr} (h : t.Ok d b) : (trT t).length ≤ 9 * (wd t).length := join_len _ fun w hw => (wd_w8 d b t h w hw).1
theorem join_map (sg ls : Tx) (hl : ls = tx " " ++ (sg ++ tx " ")) : ∀ ts : List Tr, ts ≠ [] → joinT ls (ts.map trT) = joinT (tx " ") (wdL sg ts)
  | [], h => absurd rfl h
  | [t], _ => by simp [wdL, wdT, joinT, trT]
  | t :: u :: us, _ => by
    have ih := join_map sg ls hl (u :: us) (by simp)
    have e : wdL sg (t :: u :: us) = wd t ++ ([sg] ++ wdL sg (u :: us)) := by simp [wdL, wdT]
    have hne : wdL sg (u :: us) ≠ [] := by rw [wdL]; simp [wd_ne]
    rw [e, join_app _ (wd_ne t) (by simp), join_app _ (by simp) hne, ← ih, List.map_cons]
    have c := join_app ls (a := [trT t]) (b := (u :: us).map trT) (by simp) (by simp)
    rw [List.singleton_append] at c
    rw [c, hl]
    simp [joinT, trT]
theorem parts_sum (ts : List Tr) (f : Tr → Tx) (s : Tx) : ((ts.map f).map (·.length)).sum ≤ (joinT s (ts.map f)).length ∧ (ts.map f).length * s.length ≤ (joinT s (ts.map f)).length + s.length := by
  cases ts with
  | nil => simp [joinT]
  | cons t ts =>
    have g : ∀ us : List Tr, (((us.map f).map fun y => s ++ y).flatten).length = us.length * s.length + ((us.map f).map (·.length)).sum := fun us => by
      induction us with
      | nil => simp
      | cons u us ih => simp [Nat.succ_mul] at ih ⊢; omega
    have := g ts
    simp [joinT, Nat.succ_mul] at this ⊢
    omega
theorem part_len {s : Tx} {ts : List Tr} {f : Tr → Tx} {t : Tr} (h : t ∈ ts) : (f t).length ≤ (joinT s (ts.map f)).length := by
  have h1 := (parts_sum ts f s).1
  have : (f t).length ≤ ((ts.map f).map (·.length)).sum := by
    clear h1
    induction ts with
    | nil => cases h
    | cons u us ih =>
      simp
      rcases List.mem_cons.mp h with rfl | h
      · omega
      · have := ih h; simp at this; omega
  omega
theorem trT_not (t : Tr) : trT (.not t) = tx "not " ++ trT t := by
  unfold trT
  rw [wd, ← List.singleton_append, join_app _ (by simp) (wd_ne t)]
  simp [joinT]
  rw [← List.append_assoc]
  rfl
theorem trT_sev (sg : Tx) (ts : List Tr) (h : ts ≠ []) : joinT (tx " ") (tx "(" :: (wdL sg ts ++ [tx ")"])) = tx "( " ++ (joinT (tx " ") (wdL sg ts) ++ tx " )") := by
  have hne : wdL sg ts ≠ [] := by
    cases ts with
    | nil => exact absurd rfl h
    | cons t ts => rw [wdL]; simp [wd_ne]
  rw [← List.singleton_append, join_app _ (by simp) (by simp), join_app _ hne (by simp)]
  simp [joinT]
  rw [← List.append_assoc]
  congr 1
theorem names_sum (ns : List Tx) (s : Tx) : (ns.map (·.length)).sum ≤ (joinT s ns).length ∧ ns.length * s.length ≤ (joinT s ns).length + s.length := by
  cases ns with
  | nil => simp [joinT]
  | cons t ts =>
    have g : ∀ us : List Tx, ((us.map fun y => s ++ y).flatten).length = us.length * s.length + (us.map (·.length)).sum := fun us => by
      induction us with
      | nil => simp
      | cons u us ih => simp [Nat.succ_mul] at ih ⊢; omega
    have := g ts
    simp [joinT, Nat.succ_mul] at this ⊢
    omega
/-- the whole text is a fit's -/
def fitOf (z : Tx) : Option Tr := match pFit 40 (wordsOf z) with
  | some (t, []) => some t
  | _ => none
theorem fitOf_okW {z : Tx} {t : Tr} (h : fitOf z = some t) : pFit 40 (wordsOf z) = some (t, []) ∧ ∀ w ∈ wordsOf z, okW w := by
  unfold fitOf at h
  cases hp : pFit 40 (wordsOf z) with
  | none => rw [hp] at h; cases h
  | some q =>
    obtain ⟨t1, r⟩ := q
    rw [hp] at h
    cases r with
    | cons x r => cases h
    | nil =>
      cases h
      refine ⟨rfl, ?_⟩
      obtain ⟨c, e, _, h2⟩ := pFit_took 40 _ _ _ hp
      rw [e, List.append_nil]
      exact h2
theorem fitOf_bad {z : Tx} {w : Tx} (h : w ∈ wordsOf z) (k : ¬ okW w) : fitOf z = none := by
  cases hf : fitOf z with
  | none => rfl
  | some t => exact absurd ((fitOf_okW hf).2 w h) k
theorem fitOf_rest {ws : List Tx} {z : Tx} {t : Tr} {w : Tx} {r : List Tx} (hz : wordsOf z = ws) (h : pFit 40 ws = some (t, w :: r)) : fitOf z = none := by
  unfold fitOf
  rw [hz, h]
/-! ## a drawn tree -/
theorem not_ok_nil : ¬ okW [] := fun h => h.1 rfl
theorem wd_pos (t : Tr) : 0 < (wd t).length := List.length_pos_iff.mpr (wd_ne t)
theorem kept {s S : Sto} (h1 : s.length ≤ S.length) (h2 : ∀ i, i < s.length → S[i]? = s[i]?) : ∃ l, S = s ++ l := by
  refine ⟨S.drop s.length, List.ext_getElem? fun i => ?_⟩
  by_cases hi : i < s.length
  · rw [List.getElem?_append_left hi, h2 i hi]
  · rw [List.getElem?_append_right (by omega), List.getElem?_drop]
    congr 1; omega
end Mo

namespace Mo
open Pm
theorem begin_ok (s : Sto) (c : Int) : ∃ z, IsSt z ∧ m_law_begin [.int c] s = .ok (.cell s.length) (s ++ [z]) := by
  have q1 : -18446744073709551616 < 1 - c % 2 := by omega
  have q2 : 1 - c % 2 < 18446744073709551616 := by omega
  refine ⟨.lst [.int (c / 2 * (1 - c % 2)), .int (c % 2147483647), .int 0], ⟨_, _, _, rfl⟩, ?_⟩
  simp [m_law_begin, b_law_begin, q1, q2]

end Mo
namespace Mo
open Pm
theorem nx (s0 l : Sto) {z : Cl} (hz : IsSt z) (k : Int) (h : 0 < k ∧ k < 2 ^ 64) : ∃ v z', IsSt z' ∧ 0 ≤ v ∧ v < k ∧ m_law_next [.cell s0.length, .int k] (s0 ++ z :: l) = .ok (.int v) (s0 ++ z' :: l) := by
  obtain ⟨a, b, c, rfl⟩ := hz
  have h2 : k < 18446744073709551616 := h.2
  by_cases ha : 0 < a
  · refine ⟨a % k, .lst [.int (a / k), .int b, .int c], ⟨_, _, _, rfl⟩, Int.emod_nonneg _ (by omega), Int.emod_lt_of_pos _ h.1, ?_⟩
    simp [m_law_next, b_law_next, ha, h.1, h2]
  · have q1 : ∀ x : Int, -18446744073709551616 < x % 2147483647 := by omega
    have q2 : ∀ x : Int, x % 2147483647 < 18446744073709551616 := by omega
    suffices hs : ∃ v, m_law_next [.cell s0.length, .int k] (s0 ++ Cl.lst [.int a, .int b, .int c] :: l) = .ok (.int (v % k)) (s0 ++ Cl.lst [.int a, .int b, .int (c + 1)] :: l) by
      obtain ⟨v, hv⟩ := hs
      exact ⟨v % k, _, ⟨_, _, _, rfl⟩, Int.emod_nonneg _ (by omega), Int.emod_lt_of_pos _ h.1, hv⟩
    simp [m_law_next, b_law_next, ha, h.1, h2, q1, q2]
    exact ⟨_, rfl⟩

end Mo
namespace Mo
open Pm
/-- words that a spoilt text may hold -/
def Gd (w : Tx) : Prop := w.length ≤ 9 ∧ 32 ∉ w ∧ ∀ i, numW w = some i → 0 ≤ i → i < 1000000 ∧ w = txI i
def wordL : List String := ["(", ")", "&", "|", "any", "kind", "place", "weight", "not", "a", "fire", "0", "7", "999999", "-1", "-0", "05", "+5", "5.0", "Any", "kinds", "abcdefghi", "a1", "a-b", "", ":", ";", "(any", "any)", "&&"]
theorem words_gd : ∀ z ∈ wordL, Gd (tx z) := by
  have n0 : numW (tx "0") = some 0 := by decide +kernel
  have n7 : numW (tx "7") = some 7 := by decide +kernel
  have n9 : numW (tx "999999") = some 999999 := by decide +kernel
  have n1 : numW (tx "-1") = some (-1) := by decide +kernel
  have h : (wordL.all fun z => z == "0" || z == "7" || z == "999999" || z == "-1" || (numW (tx z)).isNone) = true := by decide +kernel
  have h2 : (wordL.all fun z => decide ((tx z).length ≤ 9) && decide (32 ∉ tx z)) = true := by decide +kernel
  intro z hz
  have g := List.all_eq_true.mp h z hz
  have g2 := List.all_eq_true.mp h2 z hz
  simp only [Bool.and_eq_true, decide_eq_true_eq] at g2
  refine ⟨g2.1, g2.2, fun i hi h0 => ?_⟩
  simp only [Bool.or_eq_true, beq_iff_eq, Option.isNone_iff_eq_none] at g
  rcases g with (((rfl | rfl) | rfl) | rfl) | g
  · rw [n0] at hi; cases hi; exact ⟨by decide, rfl⟩
  · rw [n7] at hi; cases hi; exact ⟨by decide, rfl⟩
  · rw [n9] at hi; cases hi; exact ⟨by decide, rfl⟩
  · rw [n1] at hi; cases hi; exact absurd h0 (by decide)
  · rw [g] at hi; cases hi
theorem word_ok (s0 l : Sto) {z : Cl} (hz : IsSt z) : ∃ w z' l', IsSt z' ∧ Gd w ∧ m_law_word [.cell s0.length] (s0 ++ z :: l) = .ok (.str w) (s0 ++ z' :: (l ++ l')) := by
  obtain ⟨c1, hc1⟩ : ∃ c1 : Cl, c1 = .lst ((wordL.take 15).map fun z => Dx.str (tx z)) := ⟨_, rfl⟩
  obtain ⟨c2, hc2⟩ : ∃ c2 : Cl, c2 = .lst (wordL.map fun z => Dx.str (tx z)) := ⟨_, rfl⟩
  obtain ⟨v, z1, i1, a1, b1, e1⟩ := nx s0 (l ++ [c1, c2]) hz 30 (by decide)
  obtain ⟨d, h1, h2⟩ := pyIx_mem (xs := wordL.map fun z => Dx.str (tx z)) a1 (by simp [wordL]; omega)
  obtain ⟨y, hy, rfl⟩ := List.mem_map.mp h2
  refine ⟨tx y, z1, [c1, c2], i1, words_gd y hy, ?_⟩
  rw [hc1, hc2] at e1 ⊢
  simp [wordL] at e1 h1
  simp [m_law_word, b_law_word, e1, h1]
  exact ⟨rfl, rfl⟩

end Mo
namespace Mo
open Pm
theorem cut_map {α β : Type} (f : α → β) (xs : List α) (lo hi : Option Int) : cut (xs.map f) lo hi = (cut xs lo hi).map f := by
  unfold cut
  rw [List.length_map, ← List.map_drop, ← List.map_take]
theorem cut_mem {α : Type} {x : α} {xs : List α} {lo hi : Option Int} (h : x ∈ cut xs lo hi) : x ∈ xs := by
  unfold cut at h
  exact List.mem_of_mem_drop (List.mem_of_mem_take h)
theorem cut_one {α : Type} (xs : List α) (k : Int) (h : 0 ≤ k) : (cut xs (some k) (some (k + 1))).length ≤ 1 := by
  unfold cut sIx
  rw [List.length_take]
  simp only [show ¬ k < 0 from by omega, show ¬ k + 1 < 0 from by omega, if_false]
  omega
theorem slD_asM {s : Sto} {d : Dx} {ws : List Tx} (h : asM s d = some (ws.map Dx.str)) (lo hi : Option Int) : slD d lo hi s = .ok (.lst ((cut ws lo hi).map Dx.str)) s := by
  cases d with
  | lst ys => cases h; rw [slD_lst, cut_map]
  | cell n => rw [slD_cell, asL_asM h]; simp [cut_map]
  | _ => cases h
/-- words that stand whatever the number's state is -/
def WL (s0 l : Sto) (d : Dx) (ws : List Tx) : Prop := ∀ z, asM (s0 ++ z :: l) d = some (ws.map Dx.str)
theorem WL.app {s0 l : Sto} {d : Dx} {ws : List Tx} (h : WL s0 l d ws) (l' : Sto) : WL s0 (l ++ l') d ws := fun z => by
  have := asM_app (h z) l'
  rwa [List.append_assoc, List.cons_append] at this
theorem WL.lst (s0 l : Sto) (ws : List Tx) : WL s0 l (.lst (ws.map Dx.str)) ws := fun _ => rfl
def ChP (s0 l : Sto) (ws : List Tx) (r : R Dx) : Prop := ∃ d' ws' z' l', IsSt z' ∧ WL s0 (l ++ l') d' ws' ∧ ws'.length ≤ ws.length + 1 ∧ (∀ w ∈ ws', w ∈ ws ∨ Gd w) ∧ r = .ok d' (s0 ++ z' :: (l ++ l'))
theorem changed_ok (s0 l : Sto) {z : Cl} (hz : IsSt z) {d : Dx} {ws : List Tx} (hd : WL s0 l d ws) (hne : ws ≠ []) (hl : ws.length ≤ 100) : ChP s0 l ws (m_law_changed [d, .cell s0.length] (s0 ++ z :: l)) := by
  have hp := List.length_pos_iff.mpr hne
  obtain ⟨v1, z1, i1, a1, b1, e1⟩ := nx s0 l hz 6 (by decide)
  obtain ⟨v2, z2, i2, a2, b2, e2⟩ := nx s0 l i1 ws.length (by omega)
  obtain ⟨v3, z3, i3, a3, b3, e3⟩ := nx s0 l i2 ws.length (by omega)
  have hn : ∀ z, lenD [d] (s0 ++ z :: l) = .ok (.int ws.length) (s0 ++ z :: l) := fun z => by rw [lenD_asM (hd z)]; simp
  have hs : ∀ z lo hi, slD d lo hi (s0 ++ z :: l) = .ok (.lst ((cut ws lo hi).map Dx.str)) (s0 ++ z :: l) := fun z lo hi => slD_asM (hd z) lo hi
  have lt : ∀ (xs : List Tx) (k : Int), 0 ≤ k → k ≤ xs.length → (cut xs none (some k)).length = k.toNat := fun xs k h h2 => by rw [cut_to _ _ h, List.length_take]; omega
  have lf : ∀ (xs : List Tx) (k : Int), 0 ≤ k → (cut xs (some k) none).length = xs.length - k.toNat := fun xs k h => by rw [cut_from _ _ h, List.length_drop]
  have p1 := lt ws v2 a2 (by omega)
  have p2 := lf ws v2 a2
  have p3 := lf ws (v2 + 1) (by omega)
  have p4 := cut_one ws v2 a2
  by_cases c0 : v1 = 0
  · refine ⟨.lst ((cut ws none (some v2) ++ cut ws (some (v2 + 1)) none).map Dx.str), _, z3, [], i3, WL.lst _ _ _, by simp; omega, fun w hw => .inl ((List.mem_append.mp hw).elim cut_mem cut_mem), ?_⟩
    simp [m_law_changed, b_law_changed, e1, e2, e3, hn, hs, c0, show (cut ws none (some v2)).length + (cut ws (some (v2 + 1)) none).length ≤ 1000000 from by omega]
  by_cases c1 : v1 = 1
  · refine ⟨.lst ((cut ws none (some v2) ++ cut ws (some v2) (some (v2 + 1)) ++ cut ws (some v2) none).map Dx.str), _, z3, [], i3, WL.lst _ _ _, by simp; omega, fun w hw => .inl ((List.mem_append.mp hw).elim (fun h => (List.mem_append.mp h).elim cut_mem cut_mem) cut_mem), ?_⟩
    simp [m_law_changed, b_law_changed, e1, e2, e3, hn, hs, c1, show (cut ws none (some v2)).length + (cut ws (some v2) (some (v2 + 1))).length ≤ 1000000 from by omega, show (cut ws none (some v2)).length + ((cut ws (some v2) (some (v2 + 1))).length + (cut ws (some v2) none).length) ≤ 1000000 from by omega, show (cut ws none (some v2)).length + (cut ws (some v2) (some (v2 + 1))).length + (cut ws (some v2) none).length ≤ 1000000 from by omega]
  by_cases c2 : v1 = 2
  · obtain ⟨rs, hrs⟩ : ∃ rs, rs = cut ws none (some v2) ++ cut ws (some (v2 + 1)) none := ⟨_, rfl⟩
    have hrl : rs.length = ws.length - 1 := by rw [hrs, List.length_append]; omega
    have hrm : ∀ w ∈ rs, w ∈ ws := fun w hw => by rw [hrs] at hw; exact (List.mem_append.mp hw).elim cut_mem cut_mem
    have q1 := lt rs v3 a3 (by omega)
    have q2 := lf rs v3 a3
    refine ⟨.lst ((cut rs none (some v3) ++ cut ws (some v2) (some (v2 + 1)) ++ cut rs (some v3) none).map Dx.str), _, z3, [], i3, WL.lst _ _ _, by simp; omega, fun w hw => .inl ((List.mem_append.mp hw).elim (fun h => (List.mem_append.mp h).elim (fun h => hrm _ (cut_mem h)) cut_mem) (fun h => hrm _ (cut_mem h))), ?_⟩
    have e : (cut ws none (some v2)).map Dx.str ++ (cut ws (some (v2 + 1)) none).map Dx.str = rs.map Dx.str := by rw [hrs, List.map_append]
    simp [m_law_changed, b_law_changed, e1, e2, e3, hn, hs, c2, show (cut ws none (some v2)).length + (cut ws (some (v2 + 1)) none).length ≤ 1000000 from by omega, e, cut_map, show (cut rs none (some v3)).length + (cut ws (some v2) (some (v2 + 1))).length ≤ 1000000 from by omega, show (cut rs none (some v3)).length + ((cut ws (some v2) (some (v2 + 1))).length + (cut rs (some v3) none).length) ≤ 1000000 from by omega, show (cut rs none (some v3)).length + (cut ws (some v2) (some (v2 + 1))).length + (cut rs (some v3) none).length ≤ 1000000 from by omega]
  by_cases c3 : v1 = 3
  · obtain ⟨w2, g2, m2⟩ := pyIx_mem (xs := ws) a2 (by omega)
    obtain ⟨w3, g3, m3⟩ := pyIx_mem (xs := ws) a3 (by omega)
    have up : ∀ (v : Int) (w : Tx), 0 ≤ v → pyIx ws v = some w → pyIx (ws.map Dx.str) v = some (.str w) := fun v w h0 h => by
      unfold pyIx at h ⊢
      rw [if_pos h0] at h ⊢
      rw [List.getElem?_map, h]; rfl
    have ix : ∀ (v : Int) (w : Tx) (S : Sto), 0 ≤ v → pyIx ws v = some w → asM S d = some (ws.map Dx.str) → ixD d (.int v) S = .ok (.str w) S := fun v w S h0 h hS => ixD_asM hS (up v w h0 h)
    have s1 : asM (s0 ++ z3 :: (l ++ [.lst (ws.map Dx.str)])) d = some (ws.map Dx.str) := (hd.app [.lst (ws.map Dx.str)]) z3
    have s2 : ∀ c, asM (s0 ++ z3 :: (l ++ [c])) d = some (ws.map Dx.str) := fun c => (hd.app [c]) z3
    have hli := fun S (h : asM S d = some (ws.map Dx.str)) => listD_asM (c := true) h
    refine ⟨.cell (s0.length + (l.length + 1)), (ws.set v2.toNat w3).set v3.toNat w2, z3, [.lst ((((ws.set v2.toNat w3).set v3.toNat w2)).map Dx.str)], i3, fun z => by simp [asM], by simp, fun w hw => .inl ?_, ?_⟩
    · rcases List.mem_or_eq_of_mem_set hw with h | rfl
      · rcases List.mem_or_eq_of_mem_set h with h | rfl
        · exact h
        · exact m3
      · exact m2
    · simp [m_law_changed, b_law_changed, e1, e2, e3, hn, hs, c3, hli _ (hd z3), ix v3 w3 _ a3 g3 (s2 _), ix v2 w2 _ a2 g2 (s2 _), a2, a3, b2, b3]
  · obtain ⟨w, z4, l4, i4, hg, e4⟩ := word_ok s0 l i3
    have hd4 := hd.app l4
    have hs4 : ∀ z lo hi, slD d lo hi (s0 ++ z :: (l ++ l4)) = .ok (.lst ((cut ws lo hi).map Dx.str)) (s0 ++ z :: (l ++ l4)) := fun z lo hi => slD_asM (hd4 z) lo hi
    have q := lf ws (v2 + v1 % 2) (by omega)
    refine ⟨.lst ((cut ws none (some v2) ++ [w] ++ cut ws (some (v2 + v1 % 2)) none).map Dx.str), _, z4, l4, i4, WL.lst _ _ _, by simp; omega, fun x hx => ?_, ?_⟩
    · rcases List.mem_append.mp hx with h | h
      · rcases List.mem_append.mp h with h | h
        · exact .inl (cut_mem h)
        · rw [List.mem_singleton.mp h]; exact .inr hg
      · exact .inl (cut_mem h)
    · simp [m_law_changed, b_law_changed, e1, e2, e3, e4, hn, hs, hs4, c0, c1, c2, c3, show (cut ws none (some v2)).length + 1 ≤ 1000000 from by omega, show (cut ws none (some v2)).length + 1 + (cut ws (some (v2 + v1 % 2)) none).length ≤ 1000000 from by omega, show (cut ws none (some v2)).length + ((cut ws (some (v2 + v1 % 2)) none).length + 1) ≤ 1000000 from by omega]

end Mo
namespace Mo
open Pm
def SpP (s0 l : Sto) (n : Nat) (r : R Dx) : Prop := ∃ d' ws' z' l', IsSt z' ∧ WL s0 (l ++ l') d' ws' ∧ ws'.length ≤ n ∧ (∀ w ∈ ws', Gd w) ∧ r = .ok d' (s0 ++ z' :: (l ++ l'))
def SpI (s0 l : Sto) (n : Nat) (i : Nat) (e : En) (s : Sto) : Prop := ∃ (d : Dx) (ws : List Tx) (z : Cl) (l' : Sto) (x : Option Dx), IsSt z ∧ WL s0 (l ++ l') d ws ∧ ws.length ≤ n + i ∧ (∀ w ∈ ws, Gd w) ∧ e = ⟨[some d, some (.cell s0.length), x], [], none⟩ ∧ s = s0 ++ z :: (l ++ l')
theorem spoilt_ok (s0 l : Sto) {z : Cl} (hz : IsSt z) {d : Dx} {ws : List Tx} (hd : WL s0 l d ws) (hl : ws.length ≤ 17) (hg : ∀ w ∈ ws, Gd w) : SpP s0 l 20 (m_law_spoilt [d, .cell s0.length] (s0 ++ z :: l)) := by
  refine mk_R rfl ?_
  obtain ⟨v1, z1, i1, a1, b1, e1⟩ := nx s0 l hz 8 (by decide)
  by_cases c : v1 = 7
  · obtain ⟨v2, z2, i2, a2, b2, e2⟩ := nx s0 l i1 6 (by decide)
    obtain ⟨ys, S3, h3, ⟨z3, l3, i3, rfl⟩, h4, h5⟩ := lcL_inv (g := hNm 2) (tt := uYes) (te := eCall m_law_word (aCons (eVar 1) aNil)) (e := ⟨[some d, some (.cell s0.length), none], [], none⟩)
      (c := none) (all := rng 0 (1 + v2).toNat) (P := fun s => ∃ z l', IsSt z ∧ s = s0 ++ z :: (l ++ l')) (R := fun y => ∃ w, y = .str w ∧ Gd w) (fun _ _ => trivial) (rng 0 (1 + v2).toNat) (fun x hx s ⟨z, l', hz, hs⟩ => by
        subst hs
        obtain ⟨w, z', l2, hz', hw, e⟩ := word_ok s0 (l ++ l') hz
        exact ⟨_, .str w, s0 ++ z' :: (l ++ l' ++ l2), rfl, rfl, by simp [e], ⟨z', l' ++ l2, hz', by simp⟩, w, rfl, hw⟩) (s0 ++ z2 :: l) ⟨z2, [], i2, by simp⟩
    have hws : ∀ ys : List Dx, (∀ y ∈ ys, ∃ w, y = Dx.str w ∧ Gd w) → ∃ ws : List Tx, ys = ws.map Dx.str ∧ ∀ w ∈ ws, Gd w := fun ys => by
      induction ys with
      | nil => exact fun _ => ⟨[], rfl, fun w hw => by cases hw⟩
      | cons y ys ih =>
        intro h
        obtain ⟨w, rfl, hw⟩ := h y List.mem_cons_self
        obtain ⟨ws, rfl, k⟩ := ih fun q hq => h q (List.mem_cons_of_mem _ hq)
        exact ⟨w :: ws, rfl, fun q hq => (List.mem_cons.mp hq).elim (fun e => e ▸ hw) (k q)⟩
    obtain ⟨ws, rfl, hw⟩ := hws ys h5
    rw [rng_len, List.length_map] at h4
    refine ⟨.lst (ws.map Dx.str), ws, z3, l3, i3, WL.lst _ _ _, by omega, hw, ?_⟩
    simp [toR, b_law_spoilt, e1, c, e2, show -1152921504606846976 ≤ 1 + v2 from by omega, show 1 + v2 ≤ 1152921504606846976 from by omega, show (1 + v2).toNat ≤ 1000000 from by omega, rng_len, h3]
  · obtain ⟨v2, z2, i2, a2, b2, e2⟩ := nx s0 l i1 3 (by decide)
    simp [b_law_spoilt, e1, c, e2, show -1152921504606846976 ≤ 1 + v2 from by omega, show 1 + v2 ≤ 1152921504606846976 from by omega, show (1 + v2).toNat ≤ 1000000 from by omega, rng_len]
    refine forL_okX (c := none) (P := SpI s0 l 17) (Z := fun r => SpP s0 l 20 (toR (S.sq r _))) (fun _ _ _ _ => trivial) _ ?_ ?_ _ _ ⟨d, ws, z2, [], none, i2, by rw [List.append_nil]; exact hd, by omega, hg, rfl, by simp⟩
    · rintro e s ⟨d, ws, z, l', x, iz, hd, hl, hg, rfl, rfl⟩
      rw [rng_len] at hl
      exact ⟨d, ws, z, l', iz, hd, by omega, hg, by simp [toR]⟩
    · rintro i x hx e s ⟨d, ws, z, l', x2, iz, hd, hl, hg, rfl, rfl⟩
      obtain ⟨hi, rfl⟩ := rng_at hx
      refine ⟨_, rfl, ?_⟩
      have hq := asL_asM (hd z)
      by_cases hne : ws = []
      · subst hne
        simp [l_law_spoilt_1, hq]
        exact ⟨d, [], z, l', _, iz, hd, by simp, hg, rfl, rfl⟩
      · obtain ⟨d2, ws2, z3, l3, i3, hd3, hl3, hg3, e3⟩ := changed_ok s0 (l ++ l') iz hd hne (by omega)
        have hne2 : (ws.map Dx.str).isEmpty = false := by cases ws with
          | nil => exact absurd rfl hne
          | cons => rfl
        simp only [List.append_assoc] at hd3
        simp only [List.append_assoc] at e3
        simp [l_law_spoilt_1, hq, hne, e3]
        exact ⟨d2, ws2, z3, l' ++ l3, _, i3, hd3, by omega, fun w hw => (hg3 w hw).elim (hg w) id, rfl, rfl⟩

end Mo
namespace Mo
open Pm
theorem filter_no {α : Type} (p : α → Bool) (xs : List α) : (xs.filter fun x => !p x).isEmpty = xs.all p := by
  induction xs with
  | nil => rfl
  | cons x xs ih => cases h : p x <;> simp [h, ih]
theorem law_is_name_ok (w : Tx) (s : Sto) (hw : w.length ≤ 1000000) : m_law_is_name [.str w] s = .ok (.bl (nameB w)) s := by
  have L := lcL_filter (g := hNm 1) (tt := t_law_is_name_1) (te := eVar 1) (e := ⟨[some (.str w), none], [], none⟩) (c := none) (all := w.map fun c => Dx.str [c]) (s := s) (em := fun c => Dx.str [c]) (f := fun c => Dx.str [c]) (p := fun c => !decide (c ∈ letters)) trivial w (fun c _ => ⟨_, rfl, by simp [t_law_is_name_1, letters]; exact decide_eq_decide.mpr Iff.rfl, fun _ => by simp⟩)
  have hb : ((w.filter fun c => !decide (c ∈ letters)).map fun c => Dx.str [c]).isEmpty = w.all fun c => decide (c ∈ letters) := by
    rw [List.isEmpty_map]
    exact filter_no (fun c => decide (c ∈ letters)) w
  by_cases h1 : w = []
  · subst h1; simp [m_law_is_name, b_law_is_name, nameB]
  · have l1 : 1 ≤ w.length := List.length_pos_iff.mpr h1
    by_cases h8 : w.length ≤ 8
    · have h8' : (w.length : Int) ≤ 8 := by omega
      have h1' : (1 : Int) ≤ w.length := by omega
      simp [-List.isEmpty_map, m_law_is_name, b_law_is_name, nameB, h1, h8, hw, h1', h8', L, hb]
    · have h8' : ¬ (w.length : Int) ≤ 8 := by omega
      have h1' : (1 : Int) ≤ w.length := by omega
      simp [m_law_is_name, b_law_is_name, nameB, h1, h8, hw, h1', h8']

end Mo
namespace Mo
open Pm
theorem pyIx_str {ws : List Tx} {k : Nat} {w : Tx} {r : List Tx} (h : ws.drop k = w :: r) : pyIx (ws.map Dx.str) (k : Int) = some (.str w) ∧ k < ws.length ∧ ws.drop (k + 1) = r ∧ w ∈ ws := by
  have hk : k < ws.length := by
    have := congrArg List.length h
    simp at this
    omega
  have e2 : ws.drop k = ws[k] :: ws.drop (k + 1) := List.drop_eq_getElem_cons hk
  rw [h] at e2
  obtain ⟨e2, e4⟩ := List.cons.inj e2
  refine ⟨?_, hk, e4.symm, by rw [e2]; exact List.getElem_mem hk⟩
  unfold pyIx
  rw [if_pos (by omega), Int.toNat_natCast, List.getElem?_map, List.getElem?_eq_getElem hk, e2]; rfl
theorem names19_loop {s : Sto} {d : Dx} {ws : List Tx} (hd : asM s d = some (ws.map Dx.str)) (hs : ∀ w ∈ ws, w.length ≤ 1000) (hl : ws.length ≤ 1000) : ∀ (r : List Tx) (k : Nat) (acc : List Tx) (f : Nat), ws.drop k = r → k ≤ ws.length → r.length < f → acc.length ≤ k →
    whileL (uAnd (uV (eOp ltD (eVar 1) (eCall lenD (aCons (eVar 0) aNil)))) (uTru (eCall m_law_is_name (aCons (eOp ixD (eVar 0) (eVar 1)) aNil)))) (sSeq (sDrop (eApp (eVar 2) (eOp ixD (eVar 0) (eVar 1))))
    (sAsg (eOp addD (eVar 1) (eC (.int 1))) (hNm 1))) f ⟨[some d, some (.int k), some (.cell s.length)], [], none⟩ (s ++ [.lst (acc.map Dx.str)]) = .nx ⟨[some d, some (.int (k + (r.takeWhile nameB).length : Nat)), some (.cell s.length)], [], none⟩ (s ++ [.lst ((acc ++ r.takeWhile nameB).map Dx.str)])
  | r, k, acc, 0, _, _, h, _ => by omega
  | [], k, acc, f + 1, hr, hk, hf, ha => by
    have hk2 : k = ws.length := by
      have := List.drop_eq_nil_iff.mp hr
      omega
    have hn : ∀ l, lenD [d] (s ++ l) = .ok (.int ws.length) (s ++ l) := fun l => by rw [lenD_asM (asM_app hd l)]; simp
    unfold whileL
    simp [hn, hk2]
  | w :: r, k, acc, f + 1, hr, hk, hf, ha => by
    obtain ⟨p1, p2, p3, p4⟩ := pyIx_str hr
    have hn : ∀ l, lenD [d] (s ++ l) = .ok (.int ws.length) (s ++ l) := fun l => by rw [lenD_asM (asM_app hd l)]; simp
    have hi : ∀ l, ixD d (.int k) (s ++ l) = .ok (.str w) (s ++ l) := fun l => ixD_asM (asM_app hd l) p1
    have hq : ∀ S, m_law_is_name [.str w] S = .ok (.bl (nameB w)) S := fun S => law_is_name_ok w S (by have := hs w p4; omega)
    cases hnb : nameB w with
    | false =>
      rw [hnb] at hq
      rw [List.takeWhile_cons_of_neg (by rw [hnb]; exact Bool.false_ne_true)]
      unfold whileL
      simp [hn, hi, hq, p2]
    | true =>
      rw [hnb] at hq
      have ih := names19_loop hd hs hl r (k + 1) (acc ++ [w]) f p3 (by omega) (by simp at hf; omega) (by simp; omega)
      rw [List.takeWhile_cons_of_pos hnb]
      have hal : acc.length < 1000000 := by omega
      unfold whileL
      simp [hn, hi, hq, p2, hal]
      simp at ih
      rw [ih]
      simp
      omega
theorem law_names_ok {s : Sto} {d : Dx} {ws : List Tx} (hd : asM s d = some (ws.map Dx.str)) (hs : ∀ w ∈ ws, w.length ≤ 1000) (hl : ws.length ≤ 1000) {k : Nat} (hk : k ≤ ws.length) : m_law_names [d, .int k] s = .ok (.cell s.length) (s ++ [.lst (((ws.drop k).takeWhile nameB).map Dx.str)]) := by
  have L := names19_loop hd hs hl (ws.drop k) k [] fuel rfl hk (by simp; unfold fuel; omega) (Nat.zero_le _)
  simp only [List.map_nil, List.nil_append] at L
  simp [m_law_names, b_law_names, L]

end Mo
namespace Mo
open Pm
/-- what the law holds for a weight's word -/
def wgtB (w : Tx) : Bool := match numW w with
  | some i => decide (0 ≤ i)
  | none => false
theorem figW_no {w : Tx} (h : w.all (fun c => decide (c ∈ tx "0123456789")) = true) : figW w = w := by
  unfold figW
  rw [if_neg]
  intro k
  rw [show tx "-" = [45] from rfl] at k
  have k : w.take 1 = [45] := by simpa using k
  have : (45 : Nat) ∈ w := List.mem_of_mem_take (by rw [k]; simp : (45 : Nat) ∈ w.take 1)
  have := List.all_eq_true.mp h 45 this
  exact absurd this (by decide)
theorem wgtB_eq (w : Tx) : wgtB w = (decide (w ≠ []) && (decide (w.length ≤ 60) && ((w.all fun c => decide (c ∈ tx "0123456789")) && (decide (w = tx "0") || decide (w.head? ≠ some 48))))) := by
  have fo : ∀ f : Tx, figOk f = (decide (f ≠ []) && (decide (f.length ≤ 60) && f.all fun c => decide (c ∈ tx "0123456789"))) := fun f => rfl
  cases ha : w.all fun c => decide (c ∈ tx "0123456789") with
  | true =>
    have hf := figW_no ha
    unfold wgtB numW
    rw [hf]
    by_cases c1 : figOk w = true ∧ (w.head? ≠ some 48 ∨ w = tx "0")
    · rw [if_pos c1]
      obtain ⟨k1, k2⟩ := c1
      rw [fo, ha] at k1
      have hi : intOf w = some (numT w : Int) := by unfold intOf; rw [if_pos (figOk_figs (by rw [fo, ha]; exact k1)).1]
      rw [hi]
      simp only [Bool.and_true, Bool.and_eq_true, decide_eq_true_eq] at k1
      simp [k1.1, k1.2]
      rcases k2 with k2 | k2
      · exact .inr k2
      · exact .inl k2
    · rw [if_neg c1]
      rw [fo, ha] at c1
      symm
      rw [← Bool.not_eq_true]
      intro k
      apply c1
      simp only [Bool.true_and, Bool.and_true, Bool.and_eq_true, Bool.or_eq_true, decide_eq_true_eq] at k ⊢
      exact ⟨⟨k.1, k.2.1⟩, k.2.2.symm⟩
  | false =>
    have : wgtB w = false := by
      unfold wgtB numW
      by_cases c1 : figOk (figW w) = true ∧ ((figW w).head? ≠ some 48 ∨ w = tx "0")
      · rw [if_pos c1]
        obtain ⟨hf, h1, _⟩ := figOk_figs c1.1
        unfold figW at hf h1 c1
        split at hf
        · rename_i h45
          have h45 : w.take 1 = [45] := by
            rw [show tx "-" = [45] from rfl] at h45
            simpa using h45
          cases w with
          | nil => cases h45
          | cons c r =>
            simp at h45
            subst h45
            simp only [List.drop_succ_cons, List.drop_zero] at hf h1
            rw [if_pos (by simp [show tx "-" = [45] from rfl])] at c1
            simp only [List.drop_succ_cons, List.drop_zero] at c1
            have hi : intOf (45 :: r) = some (-(numT r : Int)) := by
              unfold intOf
              rw [if_neg (by simp [figs])]
              simp [hf]
            rw [hi]
            simp only [decide_eq_false_iff_not]
            intro k
            have h0 : numT r = 0 := by omega
            -- a number that is 0 has the first figure 0
            have pos : ∀ (l : Tx) (n : Nat), 0 < n → 0 < l.foldl (fun n c => n * 10 + (c - 48)) n := by
              intro l
              induction l with
              | nil => intro n h; exact h
              | cons c l ih => intro n h; exact ih (n * 10 + (c - 48)) (by omega)
            cases r with
            | nil => exact h1 rfl
            | cons c r =>
              have hd : 48 ≤ c := by
                unfold figs at hf
                rw [Bool.and_eq_true] at hf
                have := List.all_eq_true.mp hf.2 c (by simp)
                simp at this
                omega
              rcases c1.2 with q | q
              · have hc : c ≠ 48 := fun e => q (by rw [e]; rfl)
                have := pos r (0 * 10 + (c - 48)) (by omega)
                have e : numT (c :: r) = r.foldl (fun n c => n * 10 + (c - 48)) (0 * 10 + (c - 48)) := rfl
                omega
              · exact absurd q (by simp [show tx "0" = [48] from rfl])
        · rename_i h45
          exfalso
          have hw : w.all (fun c => decide (c ∈ tx "0123456789")) = true := by
            rw [List.all_eq_true]
            intro c hc
            unfold figs at hf
            rw [Bool.and_eq_true] at hf
            have := List.all_eq_true.mp hf.2 c hc
            rw [decide_eq_true_eq]
            exact fig_mem.mpr (by simpa using this)
          rw [hw] at ha
          cases ha
      · rw [if_neg c1]
    rw [this]
    simp
theorem law_is_weight_ok (w : Tx) (s : Sto) (hw : w.length ≤ 1000000) : m_law_is_weight [.str w] s = .ok (.bl (wgtB w)) s := by
  have L := lcL_filter (g := hNm 1) (tt := t_law_is_weight_1) (te := eVar 1) (e := ⟨[some (.str w), none], [], none⟩) (c := none) (all := w.map fun c => Dx.str [c]) (s := s) (em := fun c => Dx.str [c]) (f := fun c => Dx.str [c]) (p := fun c => !decide (c ∈ tx "0123456789")) trivial w (fun c _ => ⟨_, rfl, by simp [t_law_is_weight_1], fun _ => by simp⟩)
  have hb : ((w.filter fun c => !decide (c ∈ tx "0123456789")).map fun c => Dx.str [c]).isEmpty = w.all fun c => decide (c ∈ tx "0123456789") := by
    rw [List.isEmpty_map]
    exact filter_no (fun c => decide (c ∈ tx "0123456789")) w
  rw [wgtB_eq]
  have e0 : (tx "" : Tx) = [] := rfl
  by_cases h0 : w = []
  · subst h0; simp [m_law_is_weight, b_law_is_weight, e0]
  obtain ⟨c, r, hcr⟩ : ∃ c r, w = c :: r := by
    cases w with
    | nil => exact absurd rfl h0
    | cons c r => exact ⟨c, r, rfl⟩
  have hx : pyIx w 0 = some c := by rw [hcr]; rfl
  have hh : w.head? = some c := by rw [hcr]; rfl
  by_cases h60 : w.length ≤ 60
  · have h60' : ¬ (60 : Int) < w.length := by omega
    cases ha : w.all fun c => decide (c ∈ tx "0123456789") with
    | false =>
      rw [ha] at hb
      simp [-List.isEmpty_map, m_law_is_weight, b_law_is_weight, e0, h0, h60', h60, hw, L, hb]
    | true =>
      rw [ha] at hb
      have hc : decide (w.head? ≠ some 48) = !decide ([c] = tx "0") := by
        rw [hh, show tx "0" = [48] from rfl]
        simp
      cases hz : decide (w = tx "0") with
      | true => simp [-List.isEmpty_map, -decide_eq_true_eq, m_law_is_weight, b_law_is_weight, e0, h0, h60', h60, hw, L, hb, hz]
      | false => simp [-List.isEmpty_map, m_law_is_weight, b_law_is_weight, e0, h0, h60', h60, hw, L, hb, hz, hx, hc]
  · have h60' : (60 : Int) < w.length := by omega
    simp [m_law_is_weight, b_law_is_weight, e0, h0, h60', h60, hw]

end Mo
namespace Mo
open Pm
/-- words that nest -/
def cnt : List Tx → Nat
  | [] => 0
  | w :: r => (if w = tx "not" ∨ w = tx "(" then 1 else 0) + cnt r
theorem cnt_app (a b : List Tx) : cnt (a ++ b) = cnt a + cnt b := by
  induction a with
  | nil => simp [cnt]
  | cons w a ih => simp [cnt, ih]; omega
theorem cnt_took {r r' : List Tx} (h : Took r r') : cnt r' ≤ cnt r := by
  obtain ⟨c, rfl, _⟩ := h
  rw [cnt_app]; omega
theorem cnt_len (r : List Tx) : cnt r ≤ r.length := by
  induction r with
  | nil => simp [cnt]
  | cons w r ih => simp only [cnt, List.length_cons]; split <;> omega
/-- what the law's own reader tells -/
def LR (d : Dx) (ws : List Tx) (s : Sto) (r : R Dx) : Option (Tr × List Tx) → Prop
  | some (t, rest) => ∃ (l : Sto) (k : Nat), r = .ok (.tup [t.dx, .int k]) (s ++ l) ∧ ws.drop k = rest ∧ k ≤ ws.length
  | none => ∃ (l : Sto) (i : Int), r = .ok (.tup [.non, .int i]) (s ++ l)
theorem unl_lt (ns : List Tx) : (unlike ns < ns.length) ↔ ¬ ns.Nodup := by
  have h1 : unlike ns ≤ ns.length := cnt_le ns.length
  have h2 := unlike_eq (ks := ns)
  constructor
  · intro h k
    have := h2.mpr k
    omega
  · intro h
    have : unlike ns ≠ ns.length := fun k => h (h2.mp k)
    omega
theorem sev_loop19 {d : Dx} {ws : List Tx} (hl : ws.length ≤ 1000) {D : Nat} {r1 r2 : MF} {s : Sto} (hd : asM s d = some (ws.map Dx.str)) (FIT : ∀ s k, asM s d = some (ws.map Dx.str) → k ≤ ws.length → cnt (ws.drop k) < D → LR d ws s (r1 [d, .int k] s) (pFit D (ws.drop k))) {sg : Tx} (hsg : sg = tx "&" ∨ sg = tx "|") :
    ∀ (f : Nat) (acc : List Tr) (k : Nat) (l : Sto) (fu : Nat) (x4 : Option Dx), (ws.drop k).length < f → f ≤ fu → k ≤ ws.length → cnt (ws.drop k) < D → acc.length ≤ k →
    match pLoop (pFit D) sg f acc (ws.drop k) with
    | some (ts, r') => ∃ l' k' x4', whileL (uTru (eC (.bl true))) (l_law_several_1 r1 r2) fu ⟨[some d, some (.int k), some (.cell s.length), some (.str sg), x4], [], none⟩ (s ++ .lst (acc.map Tr.dx) :: l) = .nx ⟨[some d, some (.int (k' : Nat)), some (.cell s.length), some (.str sg), x4'], [], none⟩ (s ++ .lst (ts.map Tr.dx) :: l') ∧ ws.drop (k' + 1) = r' ∧ k' < ws.length
    | none => ∃ l' i, whileL (uTru (eC (.bl true))) (l_law_several_1 r1 r2) fu ⟨[some d, some (.int k), some (.cell s.length), some (.str sg), x4], [], none⟩ (s ++ .lst (acc.map Tr.dx) :: l) = .rt (.tup [.non, .int i]) (s ++ l')
  | 0, _, _, _, _, _, h, _, _, _, _ => by omega
  | f + 1, acc, k, l, 0, _, _, h, _, _, _ => by omega
  | f + 1, acc, k, l, fu + 1, x4, hf, hfu, hk, hc, ha => by
    have hS := asM_app hd (.lst (acc.map Tr.dx) :: l)
    have q := FIT (s ++ .lst (acc.map Tr.dx) :: l) k hS hk hc
    have ht : (uTru (eC (.bl true))) ⟨[some d, some (.int k), some (.cell s.length), some (.str sg), x4], [], none⟩ (s ++ .lst (acc.map Tr.dx) :: l) = .ok true (s ++ .lst (acc.map Tr.dx) :: l) := by simp
    unfold pLoop
    cases hp : pFit D (ws.drop k) with
    | none =>
      rw [hp] at q
      obtain ⟨l2, i, e⟩ := q
      simp only [List.append_assoc, List.cons_append] at e
      exact ⟨.lst (acc.map Tr.dx) :: (l ++ l2), i, whileL_rt ht (by simp [l_law_several_1, e])⟩
    | some p =>
    obtain ⟨t, r'⟩ := p
    rw [hp] at q
    obtain ⟨l2, k2, e, d2, hk2⟩ := q
    simp only [List.append_assoc, List.cons_append] at e
    have hn : ∀ l, lenD [d] (s ++ l) = .ok (.int ws.length) (s ++ l) := fun l => by rw [lenD_asM (asM_app hd l)]; simp
    have tn : ∀ S, isND t.dx .non S = .ok (.bl false) S := fun S => by cases t <;> simp [Tr.dx]
    have tk := pFit_took D _ _ _ hp
    cases r' with
    | nil =>
      have hk3 : k2 = ws.length := by
        have := List.drop_eq_nil_iff.mp d2
        omega
      exact ⟨.lst (acc.map Tr.dx) :: (l ++ l2), k2, whileL_rt ht (by simp [l_law_several_1, e, tn, hn, hk3])⟩
    | cons b r2' =>
    obtain ⟨p1, p2, p3, p4⟩ := pyIx_str d2
    have hi : ∀ l, ixD d (.int k2) (s ++ l) = .ok (.str b) (s ++ l) := fun l => ixD_asM (asM_app hd l) p1
    have hal : acc.length < 1000000 := by omega
    have hlt2 : ¬ (ws.length : Int) ≤ k2 := by omega
    have hin : ∀ S, inD true (.str b) (.lst [.str (tx "&"), .str (tx "|")]) S = .ok (.bl (!decide (b = tx "&" ∨ b = tx "|"))) S := fun S => by
      have q := any_strs b [tx "&", tx "|"]
      unfold inD
      have hc : (flat (Dx.str b) && [Dx.str (tx "&"), Dx.str (tx "|")].all flat) = true := rfl
      show (if (flat (Dx.str b) && [Dx.str (tx "&"), Dx.str (tx "|")].all flat) = true then R.ok (Dx.bl (true != ([Dx.str (tx "&"), Dx.str (tx "|")].any fun z => eqv z (.str b)))) S else R.stuck) = _
      rw [if_pos hc]
      have h : ([Dx.str (tx "&"), Dx.str (tx "|")].any fun z => eqv z (.str b)) = decide (b = tx "&" ∨ b = tx "|") := by
        rw [show [Dx.str (tx "&"), Dx.str (tx "|")] = [tx "&", tx "|"].map Dx.str from rfl, q]
        by_cases c1 : b = tx "&" <;> by_cases c2 : b = tx "|" <;> simp [c1, c2]
      rw [h]
      cases decide (b = tx "&" ∨ b = tx "|") <;> rfl
    simp only
    by_cases cb : b = sg
    · have hb0 : b ≠ tx ")" := by rw [cb]; rcases hsg with rfl | rfl <;> decide
      have hb1 : b = tx "&" ∨ b = tx "|" := by rw [cb]; exact hsg
      rw [if_pos cb]
      have lt : (ws.drop (k2 + 1)).length < f := by
        have := tk.lt
        rw [p3]
        simp at this hf ⊢
        omega
      have hcn : cnt (ws.drop (k2 + 1)) < D := by
        have := cnt_took tk
        rw [p3]
        simp only [cnt] at this
        omega
      have step := whileL_nx (t := uTru (eC (.bl true))) (b := l_law_several_1 r1 r2) (n := fu) (e' := ⟨[some d, some (.int (k2 + 1 : Nat)), some (.cell s.length), some (.str sg), some t.dx], [], none⟩) (s' := s ++ .lst ((acc ++ [t]).map Tr.dx) :: (l ++ l2)) ht (by
        have hi' : ∀ l, ixD d (.int k2) (s ++ l) = .ok (.str sg) (s ++ l) := fun l => by rw [hi l, cb]
        have hs0 : ¬ sg = tx ")" := cb ▸ hb0
        have hin' : ∀ S, inD true (.str sg) (.lst [.str (tx "&"), .str (tx "|")]) S = .ok (.bl false) S := fun S => by
          have := hin S
          rw [decide_eq_true hb1, cb] at this
          exact this
        simp [-inD_lst, l_law_several_1, e, tn, hn, hlt2, hal, hi', hs0, hin'])
      rw [step]
      have hkk : k < k2 + 1 := by
        have := tk.lt
        rw [← d2] at this
        simp at this
        omega
      have ih := sev_loop19 (r2 := r2) hl hd FIT hsg f (acc ++ [t]) (k2 + 1) (l ++ l2) fu (some t.dx) lt (by omega) (by omega) hcn (by simp; omega)
      rw [p3] at ih
      exact ih
    · rw [if_neg cb]
      by_cases cz : b = tx ")"
      · rw [if_pos cz]
        exact ⟨l ++ l2, k2, some t.dx, whileL_bk ht (by simp [l_law_several_1, e, tn, hn, hlt2, hal, hi, cz]), p3, p2⟩
      · rw [if_neg cz]
        refine ⟨.lst ((acc ++ [t]).map Tr.dx) :: (l ++ l2), k2, whileL_rt ht ?_⟩
        by_cases c3 : b = tx "&" ∨ b = tx "|"
        · simp [-inD_lst, l_law_several_1, e, tn, hn, hlt2, hal, hi, cz, hin, c3, cb]
        · simp [-inD_lst, l_law_several_1, e, tn, hn, hlt2, hal, hi, cz, hin, c3]
theorem pLoop_took2 {D : Nat} {sg : Tx} {f : Nat} {acc ts : List Tr} {r r' : List Tx} (h : pLoop (pFit D) sg f acc r = some (ts, r')) (hs : okW sg) : Took r r' := pLoop_took (fun r t r' => pFit_took D r t r') hs f acc r ts r' h
theorem several19 {d : Dx} {ws : List Tx} (hl : ws.length ≤ 1000) {D : Nat} {r1 r2 : MF} (FIT : ∀ s k, asM s d = some (ws.map Dx.str) → k ≤ ws.length → cnt (ws.drop k) < D → LR d ws s (r1 [d, .int k] s) (pFit D (ws.drop k))) (s : Sto) (k : Nat) (hd : asM s d = some (ws.map Dx.str)) (hk : k ≤ ws.length) (hc : cnt (ws.drop k) < D) :
    LR d ws s (mkF 2 5 (b_law_several r1 r2) [d, .int k] s) (pSev (pFit D) (ws.drop k)) := by
  have e0 : mkF 2 5 (b_law_several r1 r2) [d, .int k] s = toR (b_law_several r1 r2 ⟨[some d, some (.int k), none, none, none], [], none⟩ s) := mk_R (P := fun r => r = toR (b_law_several r1 r2 ⟨[some d, some (.int k), none, none, none], [], none⟩ s)) rfl rfl
  rw [e0]
  have q := FIT (s ++ [.lst []]) k (asM_app hd _) hk hc
  have hn : ∀ l, lenD [d] (s ++ l) = .ok (.int ws.length) (s ++ l) := fun l => by rw [lenD_asM (asM_app hd l)]; simp
  have ht : ∀ x3 x4, (uTru (eC (.bl true))) ⟨[some d, some (.int k), some (.cell s.length), x3, x4], [], none⟩ (s ++ [.lst []]) = .ok true (s ++ [.lst []]) := fun x3 x4 => by simp
  obtain ⟨fu, hfu, hfu2⟩ : ∃ fu, fuel = fu + 1 ∧ 2000 ≤ fu := ⟨fuel - 1, by unfold fuel; omega, by unfold fuel; omega⟩
  unfold b_law_several pSev
  simp [-sWhile_at]
  simp only [sWhile_at, hfu]
  cases hp : pFit D (ws.drop k) with
  | none =>
    rw [hp] at q
    obtain ⟨l2, i, e⟩ := q
    simp only [List.append_assoc, List.cons_append, List.nil_append] at e
    rw [whileL_rt (s' := s ++ .lst [] :: l2) (v := .tup [.non, .int i]) (ht _ _) (by simp [l_law_several_1, e])]
    exact ⟨.lst [] :: l2, i, by simp [toR]⟩
  | some p =>
  obtain ⟨t, r'⟩ := p
  rw [hp] at q
  obtain ⟨l2, k2, e, d2, hk2⟩ := q
  simp only [List.append_assoc, List.cons_append, List.nil_append] at e
  have tn : ∀ S, isND t.dx .non S = .ok (.bl false) S := fun S => by cases t <;> simp [Tr.dx]
  have tk := pFit_took D _ _ _ hp
  cases r' with
  | nil =>
    have hk3 : k2 = ws.length := by
      have := List.drop_eq_nil_iff.mp d2
      omega
    rw [whileL_rt (s' := s ++ .lst [] :: l2) (v := .tup [.non, .int k2]) (ht _ _) (by simp [l_law_several_1, e, tn, hn, hk3])]
    exact ⟨.lst [] :: l2, k2, by simp [toR]⟩
  | cons b r2' =>
  obtain ⟨p1, p2, p3, p4⟩ := pyIx_str d2
  have hi : ∀ l, ixD d (.int k2) (s ++ l) = .ok (.str b) (s ++ l) := fun l => ixD_asM (asM_app hd l) p1
  have hlt2 : ¬ (ws.length : Int) ≤ k2 := by omega
  have hin : ∀ S, inD true (.str b) (.lst [.str (tx "&"), .str (tx "|")]) S = .ok (.bl (!decide (b = tx "&" ∨ b = tx "|"))) S := fun S => by
    have q := any_strs b [tx "&", tx "|"]
    unfold inD
    have hc : (flat (Dx.str b) && [Dx.str (tx "&"), Dx.str (tx "|")].all flat) = true := rfl
    show (if (flat (Dx.str b) && [Dx.str (tx "&"), Dx.str (tx "|")].all flat) = true then R.ok (Dx.bl (true != ([Dx.str (tx "&"), Dx.str (tx "|")].any fun z => eqv z (.str b)))) S else R.stuck) = _
    rw [if_pos hc]
    have h : ([Dx.str (tx "&"), Dx.str (tx "|")].any fun z => eqv z (.str b)) = decide (b = tx "&" ∨ b = tx "|") := by
      rw [show [Dx.str (tx "&"), Dx.str (tx "|")] = [tx "&", tx "|"].map Dx.str from rfl, q]
      by_cases c1 : b = tx "&" <;> by_cases c2 : b = tx "|" <;> simp [c1, c2]
    rw [h]
    cases decide (b = tx "&" ∨ b = tx "|") <;> rfl
  simp only
  by_cases cz : b = tx ")"
  · have hb : ¬ (b = tx "&" ∨ b = tx "|") := by rw [cz]; decide
    rw [if_neg hb, whileL_bk (e' := ⟨[some d, some (.int k2), some (.cell s.length), some .non, some t.dx], [], none⟩) (s' := s ++ .lst [t.dx] :: l2) (ht _ _) (by simp [l_law_several_1, e, tn, hn, hlt2, hi, cz])]
    exact ⟨.lst [t.dx] :: l2, k2, by simp [toR]⟩
  by_cases hb : b = tx "&" ∨ b = tx "|"
  rotate_left
  · rw [if_neg hb, whileL_rt (s' := s ++ .lst [t.dx] :: l2) (v := .tup [.non, .int k2]) (ht _ _) (by simp [-inD_lst, l_law_several_1, e, tn, hn, hlt2, hi, cz, hin, hb])]
    exact ⟨.lst [t.dx] :: l2, k2, by simp [toR]⟩
  rw [if_pos hb]
  rw [whileL_nx (t := uTru (eC (.bl true))) (b := l_law_several_1 r1 r2) (n := fu) (e' := ⟨[some d, some (.int (k2 + 1 : Nat)), some (.cell s.length), some (.str b), some t.dx], [], none⟩) (s' := s ++ .lst ([t].map Tr.dx) :: l2) (ht _ _) (by simp [-inD_lst, l_law_several_1, e, tn, hn, hlt2, hi, cz, hin, hb])]
  have okb : okW b := by rcases hb with rfl | rfl; exact okW_and; exact okW_or
  have hkk : k < k2 := by
    have := tk.lt
    rw [← d2] at this
    simp at this
    omega
  have hcn : cnt (ws.drop (k2 + 1)) < D := by
    have := cnt_took tk
    rw [p3]
    simp only [cnt] at this
    omega
  have L := sev_loop19 (r2 := r2) hl hd FIT hb (r2'.length + 1) [t] (k2 + 1) l2 fu (some t.dx) (by rw [p3]; omega) (by have := congrArg List.length d2; simp at this; omega) (by omega) hcn (by simp)
  rw [p3] at L
  cases hp2 : pLoop (pFit D) b (r2'.length + 1) [t] r2' with
  | none =>
    rw [hp2] at L
    obtain ⟨l3, i, e3⟩ := L
    rw [e3]
    exact ⟨l3, i, by simp [toR]⟩
  | some q2 =>
    obtain ⟨ts, r3⟩ := q2
    rw [hp2] at L
    obtain ⟨l3, k3, x4, e3, d3, hk3⟩ := L
    rw [e3]
    refine ⟨.lst (ts.map Tr.dx) :: l3, k3 + 1, ?_, d3, by omega⟩
    rcases hb with rfl | rfl
    · simp [toR, Tr.dx, dxL_map, tx_inj]
    · simp [toR, Tr.dx, dxL_map, tx_inj]
theorem read19 {d : Dx} {ws : List Tx} (hs : ∀ w ∈ ws, w.length ≤ 600) (hl : ws.length ≤ 1000) : ∀ (D m : Nat), 2 * D ≤ m → ∀ (s : Sto) (k : Nat), asM s d = some (ws.map Dx.str) → k ≤ ws.length → cnt (ws.drop k) < D → LR d ws s (q_law_read m [d, .int k] s) (pFit D (ws.drop k))
  | 0, _, _, _, _, _, _, h => by omega
  | D + 1, 0, h, _, _, _, _, _ => by omega
  | D + 1, m + 1, hm, s, k, hd, hk, hc => by
    rw [q_law_read_s]
    have hn : ∀ l, lenD [d] (s ++ l) = .ok (.int ws.length) (s ++ l) := fun l => by rw [lenD_asM (asM_app hd l)]; simp
    have hn0 : lenD [d] s = .ok (.int ws.length) s := by have := hn []; simpa using this
    cases hr : ws.drop k with
    | nil =>
      have hk3 : k = ws.length := by
        have := List.drop_eq_nil_iff.mp hr
        omega
      exact ⟨[], k, by simp [b_law_read, hn0, hk3]⟩
    | cons w r =>
    obtain ⟨p1, p2, p3, p4⟩ := pyIx_str hr
    have hi0 : ixD d (.int k) s = .ok (.str w) s := ixD_asM hd p1
    have hlt : ¬ (ws.length : Int) ≤ k := by omega
    rw [hr] at hc
    unfold pFit
    by_cases c1 : w = tx "any"
    · rw [if_pos c1]
      exact ⟨[], k + 1, by simp [b_law_read, hn0, hlt, hi0, c1, Tr.dx], p3, by omega⟩
    rw [if_neg c1]
    have nm := law_names_ok hd (fun w hw => by have := hs w hw; omega) hl (k := k + 1) (by omega)
    rw [p3, show ((k + 1 : Nat) : Int) = (k : Int) + 1 from by omega] at nm
    have nms : ∀ (f : List Tx → Tr) (C : String), w = tx C → (C = "kind" ∨ C = "place") → (∀ ns, (f ns).dx = .tup [.str (tx C), .tup (ns.map Dx.str)]) → LR d ws s (mkF 2 5 (b_law_read (q_law_read m) (q_law_several m)) [d, .int k] s) (pNames f r) := fun f C hw hC hf => by
      have tl : (r.takeWhile nameB).length ≤ r.length := (List.takeWhile_sublist _).length_le
      have rl : r.length ≤ 1000 := by rw [← p3]; simp; omega
      have hx : w = tx "kind" ∨ w = tx "place" := by rcases hC with rfl | rfl; exact .inl hw; exact .inr hw
      have ee : eqE (.cell s.length) (.lst []) (s ++ [.lst ((r.takeWhile nameB).map Dx.str)]) = .ok (.bl (decide (r.takeWhile nameB = []))) (s ++ [.lst ((r.takeWhile nameB).map Dx.str)]) := by
        rw [eqE_nil]
        cases r.takeWhile nameB <;> simp
      have el : lenSetD [.cell s.length] (s ++ [.lst ((r.takeWhile nameB).map Dx.str)]) = .ok (.int (unlike (r.takeWhile nameB))) (s ++ [.lst ((r.takeWhile nameB).map Dx.str)]) := lenSetD_asM (xs := (r.takeWhile nameB).map Dx.str) (by simp [asM]) (strs_strs _) (by omega)
      have un := unl_lt (r.takeWhile nameB)
      unfold pNames
      by_cases g1 : r.takeWhile nameB = []
      · rw [if_neg (fun q => q.1 g1)]
        refine ⟨[.lst ((r.takeWhile nameB).map Dx.str)], k, ?_⟩
        rw [g1] at ee nm ⊢
        simp only [List.map_nil] at ee nm ⊢
        rcases hx with hx | hx <;> simp [-eqE_nil, -lenSetD_cell, b_law_read, hn0, hlt, hi0, hx, tx_inj, nm, ee]
      · by_cases g2 : (r.takeWhile nameB).Nodup
        · have g3 : ¬ (unlike (r.takeWhile nameB) < (r.takeWhile nameB).length) := fun q => (un.mp q) g2
          rw [if_pos ⟨g1, g2⟩]
          rw [decide_eq_false g1] at ee
          refine ⟨[.lst ((r.takeWhile nameB).map Dx.str)], k + 1 + (r.takeWhile nameB).length, ?_, by rw [← List.drop_drop, p3], ?_⟩
          · rcases hx with hx | hx
            · have : C = "kind" := by rcases hC with h | h; exact h; exact absurd (hx.symm.trans (hw.trans (by rw [h]))) (by decide)
              subst this
              simp [-eqE_nil, -lenSetD_cell, b_law_read, hn0, hlt, hi0, hx, tx_inj, nm, ee, el, g3, hf]
            · have : C = "place" := by rcases hC with h | h; exact absurd (hx.symm.trans (hw.trans (by rw [h]))) (by decide); exact h
              subst this
              simp [-eqE_nil, -lenSetD_cell, b_law_read, hn0, hlt, hi0, hx, tx_inj, nm, ee, el, g3, hf]
          · have : r.length = ws.length - (k + 1) := by rw [← p3]; simp
            omega
        · have g3 : unlike (r.takeWhile nameB) < (r.takeWhile nameB).length := un.mpr g2
          rw [if_neg (fun q => g2 q.2)]
          rw [decide_eq_false g1] at ee
          refine ⟨[.lst ((r.takeWhile nameB).map Dx.str)], k, ?_⟩
          rcases hx with hx | hx <;> simp [-eqE_nil, -lenSetD_cell, b_law_read, hn0, hlt, hi0, hx, tx_inj, nm, ee, el, g3]
    by_cases c2 : w = tx "kind"
    · rw [if_pos c2]
      exact nms .kind "kind" c2 (.inl rfl) (fun ns => by simp [Tr.dx])
    rw [if_neg c2]
    by_cases c3 : w = tx "place"
    · rw [if_pos c3]
      exact nms .place "place" c3 (.inr rfl) (fun ns => by simp [Tr.dx])
    rw [if_neg c3]
    by_cases c4 : w = tx "weight"
    · rw [if_pos c4]
      have bad : ∀ (x : Int), (uAnd (uV (eOp eqD (eVar 2) (eC (.str (tx "weight"))))) (uAnd (uV (eOp ltD (eOp addD (eVar 1) (eC (.int 1))) (eCall lenD (aCons (eVar 0) aNil)))) (uTru (eCall m_law_is_weight (aCons (eOp ixD (eVar 0) (eOp addD (eVar 1) (eC (.int 1)))) aNil))))) ⟨[some d, some (.int k), some (.str w), none, none], [], none⟩ s = .ok false s → LR d ws s (mkF 2 5 (b_law_read (q_law_read m) (q_law_several m)) [d, .int k] s) none := fun _ e => by
        refine ⟨[], k, ?_⟩
        subst c4
        simp [-uAnd_at, b_law_read, hn0, hlt, hi0, tx_inj, e]
      cases r with
      | nil =>
        have : ¬ ((k : Int) + 1 < ws.length) := by
          have := List.drop_eq_nil_iff.mp p3
          omega
        exact bad 0 (by simp [c4, hn0, this])
      | cons x r =>
        obtain ⟨q1, q2, q3, q4⟩ := pyIx_str p3
        have hlt2 : (k : Int) + 1 < ws.length := by omega
        have hi1 : ixD d (.int ((k : Int) + 1)) s = .ok (.str x) s := by
          have := ixD_asM (x := .str x) hd q1
          simpa using this
        have hw := law_is_weight_ok x s (by have := hs x q4; omega)
        simp only [pWeight]
        cases hx : numW x with
        | none =>
          have : wgtB x = false := by unfold wgtB; rw [hx]
          rw [this] at hw
          exact bad 0 (by simp [c4, hn0, hlt2, hi1, hw])
        | some i =>
          simp only
          by_cases hi : 0 ≤ i
          · have : wgtB x = true := by unfold wgtB; rw [hx]; simp [hi]
            rw [this] at hw
            rw [if_pos hi]
            have hio : intOf x = some i := by
              unfold numW at hx
              split at hx
              · exact hx
              · cases hx
            have hxl := hs x q4
            exact ⟨[], k + 2, by simp [b_law_read, hn0, hlt, hlt2, hi0, hi1, hw, c4, tx_inj, hio, Tr.dx, show x.length ≤ 640 from by omega], q3, by omega⟩
          · have : wgtB x = false := by unfold wgtB; rw [hx]; simp [hi]
            rw [this] at hw
            rw [if_neg hi]
            exact bad 0 (by simp [c4, hn0, hlt2, hi1, hw])
    rw [if_neg c4]
    clear nms nm
    have hcc : cnt (w :: r) = (if w = tx "not" ∨ w = tx "(" then 1 else 0) + cnt r := rfl
    by_cases c5 : w = tx "not"
    · rw [if_pos c5]
      rw [hcc, if_pos (.inl c5)] at hc
      have ih := read19 hs hl D m (by omega) s (k + 1) hd (by omega) (by rw [p3]; omega)
      rw [p3] at ih
      cases hp : pFit D r with
      | none =>
        rw [hp] at ih
        obtain ⟨l, i, e⟩ := ih
        simp at e
        exact ⟨l, i, by simp [b_law_read, hn0, hlt, hi0, c5, tx_inj, e]⟩
      | some q =>
        obtain ⟨t, r2⟩ := q
        rw [hp] at ih
        obtain ⟨l, k2, e, d2, hk2⟩ := ih
        simp at e
        have tn : ∀ S, isND t.dx .non S = .ok (.bl false) S := fun S => by cases t <;> simp [Tr.dx]
        exact ⟨l, k2, by simp [b_law_read, hn0, hlt, hi0, c5, tx_inj, e, tn, Tr.dx], d2, hk2⟩
    rw [if_neg c5]
    by_cases c6 : w = tx "("
    · rw [if_pos c6]
      rw [hcc, if_pos (.inr c6)] at hc
      obtain ⟨m, rfl⟩ : ∃ g, m = g + 1 := ⟨m - 1, by omega⟩
      have ih := several19 (r2 := q_law_several m) hl (fun s k hd hk hc => read19 hs hl D m (by omega) s k hd hk hc) s (k + 1) hd (by omega) (by rw [p3]; omega)
      rw [← q_law_several_s, p3] at ih
      cases hp : pSev (pFit D) r with
      | none =>
        rw [hp] at ih
        obtain ⟨l, i, e⟩ := ih
        simp at e
        exact ⟨l, i, by simp [b_law_read, hn0, hlt, hi0, c6, tx_inj, e]⟩
      | some q =>
        obtain ⟨t, r2⟩ := q
        rw [hp] at ih
        obtain ⟨l, k2, e, d2, hk2⟩ := ih
        simp at e
        exact ⟨l, k2, by simp [b_law_read, hn0, hlt, hi0, c6, tx_inj, e], d2, hk2⟩
    · rw [if_neg c6]
      exact ⟨[], k, by simp [b_law_read, hn0, hlt, hi0, c1, c2, c3, c4, c5, c6]⟩

end Mo
namespace Mo
open Pm
theorem unless_ok (b : Bool) (s : Sto) : m_text_unless [.bl b] s = if b = true then .ok .non s else .exc "NoText" [("line", .int 0)] s := by
  cases b <;> simp [m_text_unless, b_text_unless]

end Mo
namespace Mo
open Pm
theorem words_made (z : Tx) (s : Sto) (hz : z.length ≤ 1000000) : m_Words_init [.cell s.length, .str z] (s ++ [Cl.obj "Words" []]) = .ok .non (s ++ [.obj "Words" [("some", .lst ((wordsOf z).map Dx.str)), ("at", .int 0)]]) := by
  have tn : tx " " ≠ [] := by decide
  have ta : ∀ x, x ∈ tx " " → x < 256 := by decide
  have g1 : splT (tx " ") 0 [] z = wordsOf z := rfl
  simp [m_Words_init, b_Words_init, unless_ok, tn, hz, g1]
  rw [if_pos ta]
  simp

end Mo
namespace Mo
open Pm
/-- words, so many taken -/
def wordsC (ws : List Tx) (k : Nat) : Cl := .obj "Words" [("some", .lst (ws.map Dx.str)), ("at", .int k)]
/-- what is left of them -/
def WsAt (s : Sto) (n : Nat) (ws : List Tx) (k : Nat) : Prop := s[n]? = some (wordsC ws k) ∧ k ≤ ws.length ∧ ws.length ≤ 1000000 ∧ ∀ w ∈ ws, w.length ≤ 1000000
theorem is_over_ok {s : Sto} {n : Nat} {ws : List Tx} {k : Nat} (h : WsAt s n ws k) : m_Words_is_over [.cell n] s = .ok (.bl (decide (k = ws.length))) s := by
  obtain ⟨h1, h2, h3, h4⟩ := h
  have h1' : s[n]? = some (.obj "Words" [("some", .lst (ws.map Dx.str)), ("at", .int k)]) := h1
  simp [m_Words_is_over, b_Words_is_over, h1', List.lookup]
  omega

end Mo
namespace Mo
open Pm
theorem end_ok {s : Sto} {n : Nat} {ws : List Tx} {k : Nat} (h : WsAt s n ws k) : m_Words_end [.cell n] s = if k = ws.length then .ok .non s else .exc "NoText" [("line", .int 0)] s := by
  have e1 := is_over_ok h
  have h1' : s[n]? = some (.obj "Words" [("some", .lst (ws.map Dx.str)), ("at", .int k)]) := h.1
  by_cases c : k = ws.length
  · rw [decide_eq_true c] at e1
    simp [m_Words_end, b_Words_end, h1', List.lookup, e1, c, unless_ok]
  · rw [decide_eq_false c] at e1
    simp [m_Words_end, b_Words_end, h1', List.lookup, e1, c, unless_ok]

end Mo
namespace Mo
open Pm
theorem several_ok {xs : List Dx} {s : Sto} (h2 : 2 ≤ xs.length) (hl : xs.length ≤ 1000) (h : ∀ x ∈ xs, ∃ C fs, x = .obj C fs ∧ isSub C "Fit" = true) : m_Several_init [.lst xs] s = .ok [("fits", .lst xs)] s := by
  have e1 := lcL_all (g := hNm 2) (te := e_Several_init_1) (e := ⟨[none, some (.lst xs), none], [], none⟩) (c := none) (all := xs) (s := s) (em := id) (f := fun _ => .bl true) trivial xs (fun x hx => by
    obtain ⟨C, fs, rfl, hC⟩ := h x hx
    exact ⟨_, rfl, by simp [e_Several_init_1, hC]⟩)
  rw [List.map_id] at e1
  have e2 : dBools (xs.map fun _ => Dx.bl true) = some (xs.map fun _ => true) := bools_map (fun _ => true) _ (fun _ => rfl) xs
  have e3 : (xs.map fun _ => true).all id = true := by simp [List.all_map]
  simp only [List.map_const'] at e1 e2 e3
  simp [m_Several_init, b_Several_init, show ¬ ((xs.length : Int) < 2) from by omega, show xs.length ≤ 1000000 from by omega, e1, e2, e3]

end Mo
namespace Mo
open Pm
theorem next_over {s : Sto} {n : Nat} {ws : List Tx} {k : Nat} (h : WsAt s n ws k) (c : ws.drop k = []) : m_Words_next_word [.cell n] s = .exc "NoText" [("line", .int 0)] s := by
  have e1 := is_over_ok h
  obtain ⟨h1, h2, h3, h4⟩ := h
  have h1' : s[n]? = some (.obj "Words" [("some", .lst (ws.map Dx.str)), ("at", .int k)]) := h1
  have hk : k = ws.length := by
    have := List.drop_eq_nil_iff.mp c
    omega
  simp [m_Words_next_word, b_Words_next_word, h1', List.lookup, e1, hk, unless_ok]
theorem next_ok {s : Sto} {n : Nat} {ws : List Tx} {k : Nat} {w : Tx} {r : List Tx} (h : WsAt s n ws k) (c : ws.drop k = w :: r) : m_Words_next_word [.cell n] s = .ok (.str w) (s.set n (wordsC ws (k + 1))) ∧ WsAt (s.set n (wordsC ws (k + 1))) n ws (k + 1) ∧ ws.drop (k + 1) = r ∧ w ∈ ws := by
  have e1 := is_over_ok h
  have hh := h
  obtain ⟨h1, h2, h3, h4⟩ := h
  have h1' : s[n]? = some (.obj "Words" [("some", .lst (ws.map Dx.str)), ("at", .int k)]) := h1
  have hk : k < ws.length := by
    have := congrArg List.length c
    simp at this
    omega
  have hn : n < s.length := (List.getElem?_eq_some_iff.mp h1).1
  have e2 : ws.drop k = ws[k] :: ws.drop (k + 1) := List.drop_eq_getElem_cons hk
  rw [c] at e2
  obtain ⟨e2, e4⟩ := List.cons.inj e2
  have e3 : pyIx (ws.map Dx.str) (k : Int) = some (.str w) := by
    unfold pyIx
    rw [if_pos (by omega), Int.toNat_natCast, List.getElem?_map, List.getElem?_eq_getElem hk, e2]; rfl
  refine ⟨?_, ⟨by rw [List.getElem?_set_self hn], by omega, h3, h4⟩, e4.symm, by rw [e2]; exact List.getElem_mem hk⟩
  have hne : ¬ (k : Int) = ws.length := by omega
  have hne2 : ¬ k = ws.length := by omega
  have g : ∀ c, (s.set n c)[n]? = some c := fun c => List.getElem?_set_self hn
  rw [decide_eq_false hne2] at e1
  simp [m_Words_next_word, b_Words_next_word, h1', List.lookup, e1, unless_ok, g, e3, wordsC]

end Mo
namespace Mo
open Pm
theorem one_of_over {s : Sto} {n : Nat} {ws : List Tx} {k : Nat} (h : WsAt s n ws k) (c : ws.drop k = []) (ds : List Tx) : m_Words_one_of [.cell n, .tup (ds.map Dx.str)] s = .exc "NoText" [("line", .int 0)] s := by
  have e1 := next_over h c
  have h1' : s[n]? = some (.obj "Words" [("some", .lst (ws.map Dx.str)), ("at", .int k)]) := h.1
  simp [m_Words_one_of, b_Words_one_of, h1', List.lookup, e1]
theorem one_of_ok {s : Sto} {n : Nat} {ws : List Tx} {k : Nat} {w : Tx} {r : List Tx} (h : WsAt s n ws k) (c : ws.drop k = w :: r) (ds : List Tx) : m_Words_one_of [.cell n, .tup (ds.map Dx.str)] s = if w ∈ ds then .ok (.str w) (s.set n (wordsC ws (k + 1))) else .exc "NoText" [("line", .int 0)] (s.set n (wordsC ws (k + 1))) := by
  obtain ⟨e1, _, _, hm⟩ := next_ok h c
  have h1' : s[n]? = some (.obj "Words" [("some", .lst (ws.map Dx.str)), ("at", .int k)]) := h.1
  have e2 : inD false (.str w) (.tup (ds.map Dx.str)) (s.set n (wordsC ws (k + 1))) = .ok (.bl (decide (w ∈ ds))) (s.set n (wordsC ws (k + 1))) := by
    unfold inD
    simp only [asQ_tup, flat, flat_strs, any_strs, Bool.and_self, if_true]
    simp
  by_cases hw : w ∈ ds <;> simp [-inD_tup, m_Words_one_of, b_Words_one_of, h1', List.lookup, e1, e2, hw, unless_ok]

end Mo
namespace Mo
open Pm
theorem is_name_ok {d : Dx} {s : Sto} (h : Known s d = true) (k : shortD d) : m_is_name [d] s = .ok (.bl (nameD d)) s := by
  cases d with
  | str z =>
    have e : tx "" = [] := rfl
    by_cases h1 : z = []
    · subst h1; simp [m_is_name, b_is_name, nameD, nameB, e]
    by_cases h2 : z.length ≤ 8
    · have h3 : ¬ (8 : Int) < z.length := by omega
      have hm : z.length ≤ most := k
      have hl := lcL_map (g := hNm 1) (tt := uYes) (te := eOp (inD false) (eVar 1) (eC (.str (tx "abcdefghijklmnopqrstuvwxyz")))) (e := ⟨[some (.str z), none], [], none⟩) (c := none) (all := z.map fun c => Dx.str [c]) (s := s)
        (f := fun d => match d with | .str [c] => .bl (decide (c ∈ letters)) | _ => .non) trivial (z.map fun c => Dx.str [c]) (fun x hx => by
          obtain ⟨c, _, rfl⟩ := List.mem_map.mp hx
          exact ⟨_, rfl, rfl, by simp [letters]; exact decide_eq_decide.mpr Iff.rfl⟩)
      rw [List.map_map] at hl
      have hb : dBools (z.map ((fun d => match d with | .str [c] => Dx.bl (decide (c ∈ letters)) | _ => .non) ∘ fun c => Dx.str [c])) = some (z.map fun c => decide (c ∈ letters)) := bools_map _ _ (fun x => rfl) z
      simp [m_is_name, b_is_name, nameD, nameB, e, h1, h2, h3, hm, hl, hb]
    · have h3 : (8 : Int) < z.length := by omega
      have hm : z.length ≤ most := k
      simp [m_is_name, b_is_name, nameD, nameB, e, h1, h2, h3, hm]
  | cell n =>
    simp only [Known] at h
    cases hs : s[n]? with
    | none => rw [hs] at h; cases h
    | some c => cases c <;> simp [m_is_name, b_is_name, hs, nameD]
  | _ => first
    | (simp [Known] at h; done)
    | simp [m_is_name, b_is_name, nameD]

end Mo
namespace Mo
open Pm
theorem front_ok {s : Sto} {n : Nat} {ws : List Tx} {k : Nat} (h : WsAt s n ws k) : m_Words_front [.cell n] s = .ok (.str ((ws.drop k).headD [])) s := by
  have e1 := is_over_ok h
  obtain ⟨h1, h2, h3, h4⟩ := h
  have h1' : s[n]? = some (.obj "Words" [("some", .lst (ws.map Dx.str)), ("at", .int k)]) := h1
  by_cases c : k = ws.length
  · subst c
    simp [m_Words_front, b_Words_front, h1', List.lookup, e1, show tx "" = [] from rfl]
  · have hk : k < ws.length := by omega
    have e2 : ws.drop k = ws[k] :: ws.drop (k + 1) := List.drop_eq_getElem_cons hk
    have e3 : pyIx (ws.map Dx.str) (k : Int) = some (.str ws[k]) := by
      unfold pyIx
      rw [if_pos (by omega), Int.toNat_natCast, List.getElem?_map, List.getElem?_eq_getElem hk]; rfl
    rw [decide_eq_false c] at e1
    rw [e2, List.headD_cons]
    simp [m_Words_front, b_Words_front, h1', List.lookup, e1, e3]

end Mo
namespace Mo
open Pm
theorem set_same {α : Type} {l : List α} {n : Nat} {c : α} (h : l[n]? = some c) : l.set n c = l := by
  apply List.ext_getElem?
  intro i
  by_cases hi : n = i
  · subst hi
    rw [List.getElem?_set_self (List.getElem?_eq_some_iff.mp h).1, h]
  · rw [List.getElem?_set_ne hi]
theorem names_loop {n m : Nat} (hnm : m ≠ n) {ws : List Tx} : ∀ (r : List Tx) (k : Nat) (acc : List Tx) (S : Sto) (f : Nat), r.length < f → WsAt S n ws k → ws.drop k = r → S[m]? = some (.lst (acc.map Dx.str)) → acc.length + r.length ≤ 999999 →
    whileL t_names_in_1 l_names_in_1 f ⟨[some (.cell n), some (.cell m)], [], none⟩ S = .nx ⟨[some (.cell n), some (.cell m)], [], none⟩ ((S.set n (wordsC ws (k + (r.takeWhile nameB).length))).set m (.lst ((acc ++ r.takeWhile nameB).map Dx.str)))
  | r, k, acc, S, 0, hf, _, _, _, _ => by omega
  | [], k, acc, S, f + 1, hf, hw, hr, hm, hl => by
    have e1 := front_ok hw
    rw [hr] at e1
    have h1' : S[n]? = some (.obj "Words" [("some", .lst (ws.map Dx.str)), ("at", .int k)]) := hw.1
    have e2 := is_name_ok (d := .str []) (s := S) rfl (by show ([] : Tx).length ≤ most; decide)
    rw [show nameD (.str []) = false from rfl] at e2
    have es : S.set n (wordsC ws (k + 0)) = S := set_same hw.1
    rw [List.takeWhile_nil, List.append_nil, List.length_nil, es, set_same hm]
    unfold whileL
    simp [t_names_in_1, h1', List.lookup, e1, e2]
  | w :: r, k, acc, S, f + 1, hf, hw, hr, hm, hl => by
    have e1 := front_ok hw
    rw [hr, List.headD_cons] at e1
    obtain ⟨e3, hw3, hr3, hmem⟩ := next_ok hw hr
    have h1' : S[n]? = some (.obj "Words" [("some", .lst (ws.map Dx.str)), ("at", .int k)]) := hw.1
    have e2 := is_name_ok (d := .str w) (s := S) rfl (by show w.length ≤ most; exact hw.2.2.2 w hmem)
    cases hn : nameB w with
    | false =>
      rw [show nameD (.str w) = false from hn] at e2
      have es : S.set n (wordsC ws (k + 0)) = S := set_same hw.1
      rw [List.takeWhile_cons_of_neg (by rw [hn]; exact Bool.false_ne_true), List.append_nil, List.length_nil, es, set_same hm]
      unfold whileL
      simp [t_names_in_1, h1', List.lookup, e1, e2]
    | true =>
      rw [show nameD (.str w) = true from hn] at e2
      have hml : m < S.length := (List.getElem?_eq_some_iff.mp hm).1
      have hnl : n < S.length := (List.getElem?_eq_some_iff.mp hw.1).1
      have hm3 : (S.set n (wordsC ws (k + 1)))[m]? = some (.lst (acc.map Dx.str)) := by rw [List.getElem?_set_ne (fun q => hnm q.symm)]; exact hm
      obtain ⟨S2, hS2⟩ : ∃ S2, S2 = (S.set n (wordsC ws (k + 1))).set m (.lst ((acc ++ [w]).map Dx.str)) := ⟨_, rfl⟩
      have hw2 : WsAt S2 n ws (k + 1) := ⟨by rw [hS2, List.getElem?_set_ne hnm]; exact hw3.1, hw3.2⟩
      have hm2 : S2[m]? = some (.lst ((acc ++ [w]).map Dx.str)) := by rw [hS2, List.getElem?_set_self (by simpa using hml)]
      have ih := names_loop hnm r (k + 1) (acc ++ [w]) S2 f (by simp at hf; omega) hw2 hr3 hm2 (by simp at hl ⊢; omega)
      have step : whileL t_names_in_1 l_names_in_1 (f + 1) ⟨[some (.cell n), some (.cell m)], [], none⟩ S = whileL t_names_in_1 l_names_in_1 f ⟨[some (.cell n), some (.cell m)], [], none⟩ S2 := by
        conv => lhs; unfold whileL
        rw [hS2]
        simp [t_names_in_1, l_names_in_1, h1', List.lookup, e1, e2, hm, e3, hm3, show acc.length < 1000000 from by simp at hl; omega]
      rw [step, ih, List.takeWhile_cons_of_pos hn, hS2]
      rw [List.length_cons, show k + 1 + (r.takeWhile nameB).length = k + ((r.takeWhile nameB).length + 1) from by omega, List.append_assoc, List.singleton_append]
      congr 1
      rw [List.set_comm _ _ hnm, List.set_set, List.set_set]
theorem names_in_ok {s : Sto} {n : Nat} {ws : List Tx} {k : Nat} (h : WsAt s n ws k) (hl : ws.length ≤ 900000) : m_names_in [.cell n] s = .ok (.cell s.length) (s.set n (wordsC ws (k + ((ws.drop k).takeWhile nameB).length)) ++ [.lst (((ws.drop k).takeWhile nameB).map Dx.str)]) := by
  have hnl : n < s.length := (List.getElem?_eq_some_iff.mp h.1).1
  have hw : WsAt (s ++ [.lst []]) n ws k := ⟨by rw [List.getElem?_append_left hnl]; exact h.1, h.2⟩
  have e := names_loop (n := n) (m := s.length) (by omega) (ws.drop k) k [] (s ++ [.lst []]) fuel (by simp; unfold fuel; omega) hw rfl (by simp) (by simp; omega)
  simp only [List.nil_append] at e
  have e2 : (((s ++ [Cl.lst []]).set n (wordsC ws (k + ((ws.drop k).takeWhile nameB).length))).set s.length (.lst (((ws.drop k).takeWhile nameB).map Dx.str))) = s.set n (wordsC ws (k + ((ws.drop k).takeWhile nameB).length)) ++ [.lst (((ws.drop k).takeWhile nameB).map Dx.str)] := by
    rw [List.set_append_left _ _ hnl, List.set_append_right _ _ (by simp)]
    simp
  rw [e2] at e
  simp [m_names_in, b_names_in, e]

end Mo
namespace Mo
open Pm
theorem are_names_ok {d : Dx} {s : Sto} (h : Known s d = true) (hx : ∀ xs, asM s d = some xs → xs.length ≤ 2000 ∧ ∀ x ∈ xs, Known s x = true ∧ shortD x) : m_are_names [d] s = .ok (.bl (namesD s d)) s := by
  have hb := isB_list h
  have ht := isTy_known h "list"
  cases hm : asM s d with
  | none =>
    rw [hm] at hb
    simp only [Option.isSome_none] at hb
    rw [hb] at ht
    simp [m_are_names, b_are_names, ht, namesD, hm]
  | some xs =>
    rw [hm] at hb
    simp only [Option.isSome_some] at hb
    rw [hb] at ht
    obtain ⟨hl, hk⟩ := hx xs hm
    obtain ⟨c, hw, hs⟩ := wD_asM (a := eVar 0) (e := ⟨[some d, none], [], none⟩) hm (by simp)
    have hc := lcL_map (g := hNm 1) (tt := uYes) (te := eCall m_is_name (aCons (eVar 1) aNil)) (e := ⟨[some d, none], [], none⟩) (f := fun x => .bl (nameD x)) hs xs (fun x hx => ⟨_, rfl, rfl, by simp [is_name_ok (hk x hx).1 (hk x hx).2]⟩)
    have hbs : dBools (xs.map fun x => Dx.bl (nameD x)) = some (xs.map nameD) := bools_map nameD _ (fun _ => rfl) xs
    have hall : (xs.map nameD).all id = xs.all nameD := by rw [List.all_map]; rfl
    have hlm : xs.length ≤ 1000000 := by omega
    obtain ⟨a1, a2⟩ := all_names xs
    have hwd : wD (eVar 0) ⟨[some d, none], [], none⟩ s = .ok (xs, c) s := hw
    cases hn : xs.all nameD with
    | true =>
      obtain ⟨zs, h1, h2, h3⟩ := a1 hn
      have hls := lenSetD_asM hm h1 (by omega)
      have hld := lenD_asM hm
      rw [hn] at hall
      have hu : (((unlike zs : Nat) : Int) = (xs.length : Int)) ↔ zs.Nodup := by
        rw [← unlike_eq, ← h3]; omega
      simp [-wD_at, m_are_names, b_are_names, ht, hwd, hlm, hc, hbs, hall, hls, hld, namesD, hm, namesL, h1, h2, hu]
    | false =>
      rw [hn] at hall
      have hnl : namesL xs = false := by
        unfold namesL
        cases hz : dStrs xs with
        | none => rfl
        | some zs => simp [a2 hn zs hz]
      simp [-wD_at, m_are_names, b_are_names, ht, hwd, hlm, hc, hbs, hall, namesD, hm, hnl]

end Mo
namespace Mo
open Pm
theorem named_ok {ns : List Tx} {d : Dx} {s : Sto} (h : NmL ns) (hl : ns.length ≤ 2000) (hm : asM s d = some (ns.map Dx.str)) : m_Named_init [d] s = .ok [("names", .lst (ns.map Dx.str))] s := by
  have kd : Known s d = true := by
    cases d with
    | lst xs => rfl
    | cell n =>
      simp only [asM] at hm
      cases hs : s[n]? with
      | none => simp [hs] at hm
      | some c => simp [Known, hs]
    | _ => cases hm
  have e1 := are_names_ok kd (fun xs q => by rw [hm] at q; cases q; exact rdOk_names h.1 hl)
  have e2 : namesD s d = true := by unfold namesD; rw [hm]; exact namesL_ok h.1 h.2.1
  rw [e2] at e1
  have e3 : eqE d (.lst []) s = .ok (.bl false) s := by
    rw [eqE_nil, asL_asM hm]
    cases ns with
    | nil => exact absurd rfl h.2.2
    | cons z ns => rfl
  simp [-eqE_nil, m_Named_init, b_Named_init, e1, e3, listD_asM (c := false) hm]

end Mo
namespace Mo
open Pm
theorem is_whole_ok {d : Dx} {s : Sto} (h : Known s d = true) : m_is_whole [d] s = .ok (.bl (isW d)) s := by
  cases d with
  | cell n =>
    simp only [Known] at h
    cases hs : s[n]? with
    | none => rw [hs] at h; cases h
    | some c => cases c <;> simp [m_is_whole, b_is_whole, hs, isW]
  | _ => first
    | (simp [Known] at h; done)
    | simp [m_is_whole, b_is_whole, isW]

end Mo
namespace Mo
open Pm
theorem is_weight_ok {d : Dx} {s : Sto} (h : Known s d = true) : m_is_weight [d] s = .ok (.bl (ge 0 d)) s := by
  have w1 := is_whole_ok h
  cases h1 : isW d with
  | false => rw [h1] at w1; simp [m_is_weight, b_is_weight, w1, ge_no h1]
  | true =>
    obtain ⟨i, rfl⟩ := isW_int h1
    rw [h1] at w1
    simp [m_is_weight, b_is_weight, w1, ge]

end Mo
namespace Mo
open Pm
theorem least_ok {d : Dx} {s : Sto} (h : Known s d = true) : m_Least_init [d] s = if ge 0 d = true then .ok [("weight", d)] s else .exc "NoFit" [] s := by
  have w := is_weight_ok h
  cases h1 : ge 0 d <;> rw [h1] at w <;> simp [m_Least_init, b_Least_init, w]

end Mo
namespace Mo
open Pm
theorem not_init_ok {C : String} {fs : Fs} {s : Sto} (h : isSub C "Fit" = true) : m_Not_init [.obj C fs] s = .ok [("fit", .obj C fs)] s := by
  simp [m_Not_init, b_Not_init, h]

end Mo
namespace Mo
open Pm
theorem number_ok (w : Tx) (s : Sto) (hw : w.length ≤ 1000000) : m_number_of [.str w] s = match numW w with | some i => .ok (.int i) s | none => .exc "NoText" [("line", .int 0)] s := by
  obtain ⟨f, hf⟩ : ∃ f, f = figW w := ⟨_, rfl⟩
  have hfl : f.length ≤ 1000000 := by
    rw [hf]; unfold figW
    split
    · simp; omega
    · exact hw
  have e1 : ∀ u : MS, S.sq ((sIf (uTru (eStarts (eVar 0) (eC (.str (tx "-"))))) (sAsg (eSl (eVar 0) (oSome (eC (.int 1))) oNone) (hNm 1)) sNext) ⟨[some (.str w), some (.str w), none], [], none⟩ s) u = u ⟨[some (.str w), some (.str f), none], [], none⟩ s := fun u => by
    rw [hf]
    unfold figW
    by_cases c : (w.take 1 == tx "-") = true
    · have c' : w.take (tx "-").length == tx "-" := c
      rw [if_pos c]
      have hcut : cut w (some 1) none = w.drop 1 := cut_from w 1 (by decide)
      simp [c', hcut, hw]
    · have c' : (w.take (tx "-").length == tx "-") = false := by rw [← Bool.not_eq_true]; exact c
      rw [if_neg c]
      simp [c']
  have L := lcL_map (g := hNm 2) (tt := uYes) (te := e_number_of_1) (e := ⟨[some (.str w), some (.str f), none], [], none⟩) (c := none) (all := f.map fun c => Dx.str [c]) (s := s)
    (f := fun d => match d with | .str [c] => .bl (decide (c ∈ tx "0123456789")) | _ => .non) trivial (f.map fun c => Dx.str [c]) (fun x hx => by
      obtain ⟨c, _, rfl⟩ := List.mem_map.mp hx
      exact ⟨_, rfl, rfl, by simp [e_number_of_1]⟩)
  rw [List.map_map] at L
  have hb : dBools (f.map ((fun d => match d with | .str [c] => Dx.bl (decide (c ∈ tx "0123456789")) | _ => .non) ∘ fun c => Dx.str [c])) = some (f.map fun c => decide (c ∈ tx "0123456789")) := bools_map _ _ (fun x => rfl) f
  have e2 : m_number_of [.str w] s = toR (b_number_of ⟨[some (.str w), none, none], [], none⟩ s) := mk_R (P := fun r => r = toR (b_number_of ⟨[some (.str w), none, none], [], none⟩ s)) rfl rfl
  rw [e2]
  unfold b_number_of
  simp only [sSeq_at, sAsg_at, eVar_at, hNm_at]
  simp [-sIf_at]
  rw [e1]
  by_cases c0 : f = []
  · have hn : numW w = none := by unfold numW; rw [← hf, c0]; simp [figOk]
    simp [hn, c0, unless_ok, toR]
  obtain ⟨c, r, hcr⟩ : ∃ c r, f = c :: r := by
    cases f with
    | nil => exact absurd rfl c0
    | cons c r => exact ⟨c, r, rfl⟩
  have hp : 1 ≤ f.length := by rw [hcr]; simp
  by_cases c1 : f.length ≤ 60
  · cases ha : f.all fun c => decide (c ∈ tx "0123456789") with
    | false =>
      have hn : numW w = none := by unfold numW; rw [← hf]; simp [figOk, ha]
      have hb2 : (f.map fun c => decide (c ∈ tx "0123456789")).all id = false := by rw [List.all_map]; exact ha
      simp [hn, show (f.length : Int) ≤ 60 from by omega, show (1 : Int) ≤ f.length from by omega, hfl, show f.length ≤ 1000000 from hfl, L, hb, hb2, unless_ok, toR]
    | true =>
      have hb2 : (f.map fun c => decide (c ∈ tx "0123456789")).all id = true := by rw [List.all_map]; exact ha
      have hx : pyIx f 0 = some c := by rw [hcr]; rfl
      have fo : figOk f = true := by unfold figOk; simp [c0, c1]; simpa using ha
      by_cases c2 : f.head? ≠ some 48 ∨ w = tx "0"
      · obtain ⟨i, hi, hl⟩ := numW_some (w := w) ⟨by rw [← hf]; exact fo, by rw [← hf]; exact c2⟩
        have hn : numW w = some i := by unfold numW; rw [← hf, if_pos ⟨fo, c2⟩]; exact hi
        have c3 : ¬ [c] = tx "0" ∨ w = tx "0" := c2.imp (fun h q => h (by rw [hcr]; simpa [show tx "0" = [48] from rfl] using q)) id
        by_cases c4 : [c] = tx "0"
        · have c5 : w = tx "0" := c3.resolve_left (fun h => h c4)
          subst c5
          simp [hn, show (f.length : Int) ≤ 60 from by omega, show (1 : Int) ≤ f.length from by omega, show f.length ≤ 1000000 from hfl, L, hb, hb2, unless_ok, toR, hx, c4, hi, show (tx "0").length ≤ 640 from by decide]
        · simp [hn, show (f.length : Int) ≤ 60 from by omega, show (1 : Int) ≤ f.length from by omega, show f.length ≤ 1000000 from hfl, L, hb, hb2, unless_ok, toR, hx, c4, hi, show w.length ≤ 640 from by omega]
      · obtain ⟨d1, d2⟩ := not_or.mp c2
        have d1 : f.head? = some 48 := Classical.not_not.mp d1
        have hn : numW w = none := by unfold numW; rw [← hf, if_neg (fun q => c2 q.2)]
        have c4 : [c] = tx "0" := by rw [hcr] at d1; simp at d1; rw [d1]; rfl
        simp [hn, show (f.length : Int) ≤ 60 from by omega, show (1 : Int) ≤ f.length from by omega, show f.length ≤ 1000000 from hfl, L, hb, hb2, unless_ok, toR, hx, c4, d2]
  · have hn : numW w = none := by unfold numW; rw [← hf]; simp [figOk, c1]
    simp [hn, show ¬ (f.length : Int) ≤ 60 from by omega, show (1 : Int) ≤ f.length from by omega, show f.length ≤ 1000000 from hfl, unless_ok, toR]

end Mo
namespace Mo
open Pm
theorem next_number_ok {s : Sto} {n : Nat} {ws : List Tx} {k : Nat} {w : Tx} {r : List Tx} (h : WsAt s n ws k) (c : ws.drop k = w :: r) : m_Words_next_number [.cell n] s = match numW w with | some i => .ok (.int i) (s.set n (wordsC ws (k + 1))) | none => .exc "NoText" [("line", .int 0)] (s.set n (wordsC ws (k + 1))) := by
  obtain ⟨e1, _, _, hm⟩ := next_ok h c
  have h1' : s[n]? = some (.obj "Words" [("some", .lst (ws.map Dx.str)), ("at", .int k)]) := h.1
  have e2 := number_ok w (s.set n (wordsC ws (k + 1))) (h.2.2.2 w hm)
  cases hn : numW w <;> rw [hn] at e2 <;> simp [m_Words_next_number, b_Words_next_number, h1', List.lookup, e1, e2]
theorem next_number_over {s : Sto} {n : Nat} {ws : List Tx} {k : Nat} (h : WsAt s n ws k) (c : ws.drop k = []) : m_Words_next_number [.cell n] s = .exc "NoText" [("line", .int 0)] s := by
  have e1 := next_over h c
  have h1' : s[n]? = some (.obj "Words" [("some", .lst (ws.map Dx.str)), ("at", .int k)]) := h.1
  simp [m_Words_next_number, b_Words_next_number, h1', List.lookup, e1]

end Mo
namespace Mo
open Pm
theorem named_no {ns : List Tx} {d : Dx} {s : Sto} (h : ∀ z ∈ ns, nameB z = true) (hl : ns.length ≤ 2000) (hm : asM s d = some (ns.map Dx.str)) (hb : ¬ (ns ≠ [] ∧ ns.Nodup)) : m_Named_init [d] s = .exc "NoFit" [] s := by
  have kd : Known s d = true := by
    cases d with
    | lst xs => rfl
    | cell n =>
      simp only [asM] at hm
      cases hs : s[n]? with
      | none => simp [hs] at hm
      | some c => simp [Known, hs]
    | _ => cases hm
  have e1 := are_names_ok kd (fun xs q => by rw [hm] at q; cases q; exact rdOk_names h hl)
  by_cases hd : ns.Nodup
  · have hn : ns = [] := Classical.byContradiction fun q => hb ⟨q, hd⟩
    subst hn
    have e2 : namesD s d = true := by unfold namesD; rw [hm]; rfl
    rw [e2] at e1
    have e3 : eqE d (.lst []) s = .ok (.bl true) s := by
      rw [eqE_nil, asL_asM hm]
      rfl
    simp [-eqE_nil, m_Named_init, b_Named_init, e1, e3]
  · have e2 : namesD s d = false := by unfold namesD; rw [hm]; exact namesL_dup hd
    rw [e2] at e1
    simp [-eqE_nil, m_Named_init, b_Named_init, e1]
theorem severalM_ok {xs : List Dx} {d : Dx} {s : Sto} (hm : asM s d = some xs) (h2 : 2 ≤ xs.length) (hl : xs.length ≤ 1000000) (h : ∀ x ∈ xs, ∃ C fs, x = .obj C fs ∧ isSub C "Fit" = true) : m_Several_init [d] s = .ok [("fits", .lst xs)] s := by
  obtain ⟨c, w1, w2⟩ := wD_asM (a := eVar 1) (e := ⟨[none, some d, none], [], none⟩) hm (by simp)
  have e1 := lcL_all (g := hNm 2) (te := e_Several_init_1) (e := ⟨[none, some d, none], [], none⟩) (c := c) (all := xs) (s := s) (em := id) (f := fun _ => .bl true) w2 xs (fun x hx => by
    obtain ⟨C, fs, rfl, hC⟩ := h x hx
    exact ⟨_, rfl, by simp [e_Several_init_1, hC]⟩)
  rw [List.map_id] at e1
  have e2 : dBools (xs.map fun _ => Dx.bl true) = some (xs.map fun _ => true) := bools_map (fun _ => true) _ (fun _ => rfl) xs
  have e3 : (xs.map fun _ => true).all id = true := by simp [List.all_map]
  simp only [List.map_const'] at e1 e2 e3
  have e4 := lenD_asM hm
  have e5 := listD_asM (c := false) hm
  have kd : Known s d = true := by
    cases d with
    | lst xs => rfl
    | cell n =>
      simp only [asM] at hm
      cases hs : s[n]? with
      | none => simp [hs] at hm
      | some c => simp [Known, hs]
    | _ => cases hm
  have e6 := isTy_known kd "list"
  rw [isB_list kd, hm] at e6
  simp [-wD_at, m_Several_init, b_Several_init, e6, e4, w1, show ¬ ((xs.length : Int) < 2) from by omega, show xs.length ≤ 1000000 from by omega, e1, e2, e3, e5]
/-- other cells stay -/
def Up (s S : Sto) (n m : Nat) : Prop := s.length ≤ S.length ∧ ∀ i, i < s.length → i ≠ n → i ≠ m → S[i]? = s[i]?
theorem Up.refl (s : Sto) (n m : Nat) : Up s s n m := ⟨Nat.le_refl _, fun _ _ _ _ => rfl⟩
theorem Up.trans {a b c : Sto} {n m : Nat} (h : Up a b n m) (k : Up b c n m) : Up a c n m := ⟨Nat.le_trans h.1 k.1, fun i hi h1 h2 => (k.2 i (Nat.lt_of_lt_of_le hi h.1) h1 h2).trans (h.2 i hi h1 h2)⟩
theorem Up.any {s S : Sto} {n : Nat} (h : Up s S n n) (m : Nat) : Up s S n m := ⟨h.1, fun i hi h1 _ => h.2 i hi h1 h1⟩
theorem Up.set {s : Sto} {n m : Nat} (c : Cl) : Up s (s.set n c) n m := ⟨by simp, fun i hi h1 _ => List.getElem?_set_ne (fun q => h1 q.symm)⟩
theorem Up.app {s : Sto} {n m : Nat} (l : Sto) : Up s (s ++ l) n m := ⟨by simp, fun i hi _ _ => List.getElem?_append_left hi⟩
def Bad (C : String) (fs : Fs) : Prop := (C = "NoText" ∧ fs = [("line", .int 0)]) ∨ (C = "NoFit" ∧ fs = [])
theorem bad_t : Bad "NoText" [("line", .int 0)] := .inl ⟨rfl, rfl⟩
theorem bad_f : Bad "NoFit" [] := .inr ⟨rfl, rfl⟩
/-- what comes of reading a fit -/
def RF (n : Nat) (ws : List Tx) (s : Sto) (r : R Dx) : Option (Tr × List Tx) → Prop
  | some (t, rest) => ∃ S k, Up s S n n ∧ WsAt S n ws k ∧ ws.drop k = rest ∧ r = .ok t.fitO S
  | none => ∃ C fs S, Bad C fs ∧ Up s S n n ∧ r = .exc C fs S
theorem wsAt_up {s S : Sto} {n m : Nat} {ws : List Tx} {k : Nat} (h : WsAt s n ws k) (c : S[n]? = s[n]?) : WsAt S n ws k := ⟨by rw [c]; exact h.1, h.2⟩
theorem sev_loop {n m : Nat} (hnm : m ≠ n) {ws : List Tx} (hws : ws.length ≤ 1900) {a : Dx} {r1 r2 : MF} {P : List Tx → Option (Tr × List Tx)} (FIT : ∀ s k, WsAt s n ws k → RF n ws s (r1 [.cell n, a] s) (P (ws.drop k))) (CON : ∀ r t r', P r = some (t, r') → r'.length < r.length) {sign : Tx} (hs : sign ≠ tx ")") :
    ∀ (f : Nat) (acc : List Tr) (k : Nat) (S : Sto) (fu : Nat), (ws.drop k).length < f → f ≤ fu → WsAt S n ws k → S[m]? = some (.lst (acc.map Tr.fitO)) → acc.length ≤ k →
    (pLoop P sign f acc (ws.drop k) = none ∧ ((∃ C fs e S', Bad C fs ∧ Up S S' n m ∧ whileL (uV (eOp eqD (eVar 4) (eVar 3))) (l_several_in_1 r1 r2) fu ⟨[some (.cell n), some a, some (.cell m), some (.str sign), some (.str sign)], [], none⟩ S = .exc C fs e S') ∨
      ∃ b S', b ≠ sign ∧ b ≠ tx ")" ∧ Up S S' n m ∧ whileL (uV (eOp eqD (eVar 4) (eVar 3))) (l_several_in_1 r1 r2) fu ⟨[some (.cell n), some a, some (.cell m), some (.str sign), some (.str sign)], [], none⟩ S = .nx ⟨[some (.cell n), some a, some (.cell m), some (.str sign), some (.str b)], [], none⟩ S')) ∨
    (∃ ts r' S' k', pLoop P sign f acc (ws.drop k) = some (ts, r') ∧ whileL (uV (eOp eqD (eVar 4) (eVar 3))) (l_several_in_1 r1 r2) fu ⟨[some (.cell n), some a, some (.cell m), some (.str sign), some (.str sign)], [], none⟩ S = .nx ⟨[some (.cell n), some a, some (.cell m), some (.str sign), some (.str (tx ")"))], [], none⟩ S' ∧
      Up S S' n m ∧ WsAt S' n ws k' ∧ ws.drop k' = r' ∧ S'[m]? = some (.lst (ts.map Tr.fitO)) ∧ ts.length ≤ k' ∧ acc.length < ts.length)
  | 0, _, _, _, _, h, _, _, _, _ => by omega
  | f + 1, acc, k, S, 0, _, h, _, _, _ => by omega
  | f + 1, acc, k, S, fu + 1, hf, hfu, hw, hm, hk => by
    have q := FIT S k hw
    have hk9 : k ≤ 1900 := Nat.le_trans hw.2.1 hws
    cases hp : P (ws.drop k) with
    | none =>
      rw [hp] at q
      obtain ⟨C, fs, S', hb, uq, e⟩ := q
      refine .inl ⟨by unfold pLoop; rw [hp], .inl ⟨C, fs, ⟨[some (.cell n), some a, some (.cell m), some (.str sign), some (.str sign)], [], none⟩, S', hb, uq.any m, ?_⟩⟩
      unfold whileL
      simp [l_several_in_1, hm, e]
    | some tr =>
      obtain ⟨t, r⟩ := tr
      rw [hp] at q
      obtain ⟨S1, k1, u1, w1, d1, e⟩ := q
      have hml : m < S.length := (List.getElem?_eq_some_iff.mp hm).1
      have hm1 : S1[m]? = some (.lst (acc.map Tr.fitO)) := by rw [u1.2 m hml hnm hnm]; exact hm
      have hml1 : m < S1.length := (List.getElem?_eq_some_iff.mp hm1).1
      obtain ⟨S2, hS2⟩ : ∃ S2, S2 = S1.set m (.lst (acc.map Tr.fitO ++ [t.fitO])) := ⟨_, rfl⟩
      have w2 : WsAt S2 n ws k1 := wsAt_up (m := m) w1 (by rw [hS2, List.getElem?_set_ne hnm])
      have hm2 : S2[m]? = some (.lst ((acc ++ [t]).map Tr.fitO)) := by rw [hS2, List.getElem?_set_self hml1, List.map_append]; rfl
      have u2 : Up S S2 n m := (u1.any m).trans (by
        rw [hS2]
        exact ⟨by simp, fun i hi h1 h2 => List.getElem?_set_ne (fun q => h2 q.symm)⟩)
      have hlen := CON _ _ _ hp
      have hkk : k < k1 := by
        rw [← d1] at hlen
        simp at hlen
        omega
      have body : l_several_in_1 r1 r2 ⟨[some (.cell n), some a, some (.cell m), some (.str sign), some (.str sign)], [], none⟩ S = (m_Words_next_word [.cell n] S2).s ⟨[some (.cell n), some a, some (.cell m), some (.str sign), some (.str sign)], [], none⟩ fun v s1 => .nx ⟨[some (.cell n), some a, some (.cell m), some (.str sign), some v], [], none⟩ s1 := by
        have w2' : S2[n]? = some (.obj "Words" [("some", .lst (ws.map Dx.str)), ("at", .int k1)]) := w2.1
        simp [l_several_in_1, hm, e, hm1, show acc.length < 1000000 from by omega, ← hS2, w2', List.lookup]
      cases r with
      | nil =>
        have e2 := next_over w2 d1
        rw [e2] at body
        refine .inl ⟨by unfold pLoop; rw [hp], .inl ⟨_, _, ⟨[some (.cell n), some a, some (.cell m), some (.str sign), some (.str sign)], [], none⟩, S2, bad_t, u2, ?_⟩⟩
        unfold whileL
        simp [body]
      | cons b r =>
        obtain ⟨e2, w3, d3, _⟩ := next_ok w2 d1
        rw [e2] at body
        obtain ⟨S3, hS3⟩ : ∃ S3, S3 = S2.set n (wordsC ws (k1 + 1)) := ⟨_, rfl⟩
        rw [← hS3] at body w3
        have hm3 : S3[m]? = some (.lst ((acc ++ [t]).map Tr.fitO)) := by rw [hS3, List.getElem?_set_ne (fun q => hnm q.symm)]; exact hm2
        have u3 : Up S S3 n m := u2.trans (by rw [hS3]; exact Up.set _)
        by_cases hbs : b = sign
        · subst hbs
          have ih := sev_loop (r2 := r2) hnm hws FIT CON hs f (acc ++ [t]) (k1 + 1) S3 fu (by rw [d3]; simp at hlen hf; omega) (by omega) w3 hm3 (by simp; omega)
          have step : whileL (uV (eOp eqD (eVar 4) (eVar 3))) (l_several_in_1 r1 r2) (fu + 1) ⟨[some (.cell n), some a, some (.cell m), some (.str b), some (.str b)], [], none⟩ S = whileL (uV (eOp eqD (eVar 4) (eVar 3))) (l_several_in_1 r1 r2) fu ⟨[some (.cell n), some a, some (.cell m), some (.str b), some (.str b)], [], none⟩ S3 := by
            conv => lhs; unfold whileL
            simp [body]
          have pstep : pLoop P b (f + 1) acc (ws.drop k) = pLoop P b f (acc ++ [t]) (ws.drop (k1 + 1)) := by
            conv => lhs; unfold pLoop
            rw [hp, d3]
            simp
          rw [step, pstep]
          rcases ih with ih | ⟨ts, r', S', k', g1, g2, g3, g4, g5, g6, g7, g8⟩
          · refine .inl ⟨ih.1, ih.2.imp ?_ ?_⟩
            · rintro ⟨C, fs, e', S', x1, x2, x3⟩
              exact ⟨C, fs, e', S', x1, u3.trans x2, x3⟩
            · rintro ⟨c, S', x1, x2, x3, x4⟩
              exact ⟨c, S', x1, x2, u3.trans x3, x4⟩
          · exact .inr ⟨ts, r', S', k', g1, g2, u3.trans g3, g4, g5, g6, g7, by simp at g8; omega⟩
        · obtain ⟨fu, rfl⟩ : ∃ g, fu = g + 1 := ⟨fu - 1, by rw [List.length_cons] at hlen; omega⟩
          have step : whileL (uV (eOp eqD (eVar 4) (eVar 3))) (l_several_in_1 r1 r2) (fu + 1 + 1) ⟨[some (.cell n), some a, some (.cell m), some (.str sign), some (.str sign)], [], none⟩ S = .nx ⟨[some (.cell n), some a, some (.cell m), some (.str sign), some (.str b)], [], none⟩ S3 := by
            unfold whileL
            simp [body]
            unfold whileL
            simp [hbs]
          by_cases hbp : b = tx ")"
          · subst hbp
            refine .inr ⟨acc ++ [t], r, S3, k1 + 1, ?_, step, u3, w3, d3, hm3, by simp; omega, by simp⟩
            unfold pLoop
            rw [hp]
            simp [hbs]
          · refine .inl ⟨?_, .inr ⟨b, S3, hbs, hbp, u3, step⟩⟩
            unfold pLoop
            rw [hp]
            simp [hbs, hbp]
theorem sev_ok {n : Nat} {ws : List Tx} (hws : ws.length ≤ 1900) {a : Dx} {r1 r2 : MF} {P : List Tx → Option (Tr × List Tx)} (FIT : ∀ s k, WsAt s n ws k → RF n ws s (r1 [.cell n, a] s) (P (ws.drop k))) (CON : ∀ r t r', P r = some (t, r') → r'.length < r.length)
    (s : Sto) (k : Nat) (hw : WsAt s n ws k) : RF n ws s (mkF 2 5 (b_several_in r1 r2) [.cell n, a] s) (pSev P (ws.drop k)) := by
  have q := FIT s k hw
  have e0 : mkF 2 5 (b_several_in r1 r2) [.cell n, a] s = toR (b_several_in r1 r2 ⟨[some (.cell n), some a, none, none, none], [], none⟩ s) := mk_R (P := fun r => r = toR (b_several_in r1 r2 ⟨[some (.cell n), some a, none, none, none], [], none⟩ s)) rfl rfl
  rw [e0]
  cases hp : P (ws.drop k) with
  | none =>
    rw [hp] at q
    obtain ⟨C, fs, S', hb, uq, e⟩ := q
    unfold pSev
    rw [hp]
    exact ⟨C, fs, S', hb, uq, by simp [b_several_in, e, toR]⟩
  | some tr =>
    obtain ⟨t, r⟩ := tr
    rw [hp] at q
    obtain ⟨S1, k1, u1, w1, d1, e⟩ := q
    have hnl : n < S1.length := (List.getElem?_eq_some_iff.mp w1.1).1
    have w2 : WsAt (S1 ++ [Cl.lst [t.fitO]]) n ws k1 := wsAt_up (m := n) w1 (by rw [List.getElem?_append_left hnl])
    have w2' : (S1 ++ [Cl.lst [t.fitO]])[n]? = some (.obj "Words" [("some", .lst (ws.map Dx.str)), ("at", .int k1)]) := w2.1
    have hlen := CON _ _ _ hp
    have hkk : k < k1 := by
      rw [← d1] at hlen
      simp at hlen
      omega
    unfold pSev
    rw [hp]
    cases r with
    | nil =>
      have e2 := one_of_over w2 d1 [tx "&", tx "|"]
      simp only [List.map_cons, List.map_nil] at e2
      exact ⟨_, _, S1 ++ [Cl.lst [t.fitO]], bad_t, u1.trans (Up.app _), by simp [b_several_in, e, w2', List.lookup, e2, toR]⟩
    | cons b r =>
      have e2 := one_of_ok w2 d1 [tx "&", tx "|"]
      obtain ⟨_, w3, d3, _⟩ := next_ok w2 d1
      simp only [List.map_cons, List.map_nil] at e2
      obtain ⟨S3, hS3⟩ : ∃ S3, S3 = (S1 ++ [Cl.lst [t.fitO]]).set n (wordsC ws (k1 + 1)) := ⟨_, rfl⟩
      rw [← hS3] at e2 w3
      by_cases hb : b = tx "&" ∨ b = tx "|"
      · have hb2 : b ∈ [tx "&", tx "|"] := by simpa using hb
        rw [if_pos hb2] at e2
        have hs : b ≠ tx ")" := by rcases hb with rfl | rfl <;> simp [tx_inj]
        have hm3 : S3[S1.length]? = some (.lst ([t].map Tr.fitO)) := by
          rw [hS3, List.getElem?_set_ne (by omega)]
          simp
        have u3 : Up s S3 n n := u1.trans (by
          rw [hS3]
          exact (Up.app _).trans (Up.set _))
        have L := sev_loop (r2 := r2) (n := n) (m := S1.length) (by omega) hws FIT CON hs (r.length + 1) [t] (k1 + 1) S3 fuel (by rw [d3]; omega) (by
          have : (b :: r).length ≤ 1900 := by rw [← d1]; simp; omega
          simp at this
          unfold fuel; omega) w3 hm3 (by simp)
        rw [d3] at L
        have pre : b_several_in r1 r2 ⟨[some (.cell n), some a, none, none, none], [], none⟩ s = (whileL (uV (eOp eqD (eVar 4) (eVar 3))) (l_several_in_1 r1 r2) fuel ⟨[some (.cell n), some a, some (.cell S1.length), some (.str b), some (.str b)], [], none⟩ S3).sq (sSeq (sDrop (eCall m_text_unless (aCons (eOp eqD (eVar 4) (eC (.str (tx ")")))) aNil)))
            (sSeq (sIf (uV (eOp eqD (eVar 3) (eC (.str (tx "&"))))) (sRet (eMake "Both" m_Several_init (aCons (eVar 2) aNil))) sNext)
            (sRet (eMake "Either" m_Several_init (aCons (eVar 2) aNil))))) := by
          simp [b_several_in, e, w2', List.lookup, e2]
        rw [pre]
        simp only [if_pos hb]
        have up4 : ∀ S', Up S3 S' n S1.length → Up s S' n n := fun S' g3 => ⟨Nat.le_trans u3.1 g3.1, fun i hi h1 _ => by
            have hi1 : i < S1.length := Nat.lt_of_lt_of_le hi u1.1
            rw [g3.2 i (Nat.lt_of_lt_of_le hi u3.1) h1 (by omega)]
            exact u3.2 i hi h1 h1⟩
        rcases L with ⟨g1, ⟨C, fs, e', S', hb', uq, g2⟩ | ⟨c, S', hc1, hc2, uq, g2⟩⟩ | ⟨ts, r', S', k', g1, g2, g3, g4, g5, g6, g7, g8⟩
        · rw [g1, g2]
          exact ⟨C, fs, S', hb', up4 S' uq, by simp [toR]⟩
        · rw [g1, g2]
          exact ⟨_, _, S', bad_t, up4 S' uq, by simp [hc2, unless_ok, toR]⟩
        · rw [g1, g2]
          have hk9 : k' ≤ 1900 := Nat.le_trans g4.2.1 hws
          have sv := severalM_ok (s := S') (d := .cell S1.length) (xs := ts.map Tr.fitO) (by simp [asM, g6]) (by simp at g8 ⊢; omega) (by simp; omega) (fun x hx => by
            obtain ⟨t, _, rfl⟩ := List.mem_map.mp hx
            exact fitO_obj t)
          have u4 : Up s S' n n := ⟨Nat.le_trans u3.1 g3.1, fun i hi h1 _ => by
            have hi1 : i < S1.length := Nat.lt_of_lt_of_le hi u1.1
            rw [g3.2 i (Nat.lt_of_lt_of_le hi u3.1) h1 (by omega)]
            exact u3.2 i hi h1 h1⟩
          by_cases hba : b = tx "&"
          · exact ⟨S', k', u4, g4, g5, by simp [hba, unless_ok, sv, toR, Tr.fitO, fitL_map]⟩
          · exact ⟨S', k', u4, g4, g5, by simp [hba, unless_ok, sv, toR, Tr.fitO, fitL_map]⟩
      · have hb2 : b ∉ [tx "&", tx "|"] := by simpa using hb
        rw [if_neg hb2] at e2
        simp only [if_neg hb]
        exact ⟨_, _, S3, bad_t, u1.trans (by rw [hS3]; exact (Up.app _).trans (Up.set _)), by simp [b_several_in, e, w2', List.lookup, e2, toR]⟩
theorem fit_ok {n : Nat} {ws : List Tx} (hws : ws.length ≤ 1900) : ∀ (d m : Nat) (a : Int), 2 * d + 1 ≤ m → d ≤ 40 → a = 40 - (d : Int) → ∀ (s : Sto) (k : Nat), WsAt s n ws k → RF n ws s (q_fit_in m [.cell n, .int a] s) (pFit d (ws.drop k))
  | d, 0, a, h, _, _, _, _, _ => by omega
  | 0, m + 1, a, _, _, ha, s, k, hw => by
    rw [q_fit_in_s]
    have hp : pFit 0 (ws.drop k) = none := by cases ws.drop k <;> rfl
    rw [hp]
    exact ⟨_, _, s, bad_t, Up.refl s n n, by simp [b_fit_in, show ¬ a < 40 from by omega, unless_ok]⟩
  | d + 1, m + 1, a, hm, hd, ha, s, k, hw => by
    rw [q_fit_in_s]
    have h40 : a < 40 := by omega
    have hw' : s[n]? = some (.obj "Words" [("some", .lst (ws.map Dx.str)), ("at", .int k)]) := hw.1
    cases hr : ws.drop k with
    | nil =>
      have e1 := next_over hw hr
      exact ⟨_, _, s, bad_t, Up.refl s n n, by simp [b_fit_in, h40, unless_ok, hw', List.lookup, e1]⟩
    | cons w r =>
      obtain ⟨e1, w1, d1, _⟩ := next_ok hw hr
      obtain ⟨S1, hS1⟩ : ∃ S1, S1 = s.set n (wordsC ws (k + 1)) := ⟨_, rfl⟩
      rw [← hS1] at e1 w1
      have u1 : Up s S1 n n := by rw [hS1]; exact Up.set _
      have w1' : S1[n]? = some (.obj "Words" [("some", .lst (ws.map Dx.str)), ("at", .int (k + 1 : Nat))]) := w1.1
      have hn1 : n < S1.length := (List.getElem?_eq_some_iff.mp w1.1).1
      have hrl : r.length ≤ 1900 := by rw [← d1]; simp; omega
      unfold pFit
      by_cases c1 : w = tx "any"
      · subst c1
        exact ⟨S1, k + 1, u1, w1, d1, by simp [b_fit_in, h40, unless_ok, hw', List.lookup, e1, Tr.fitO]⟩
      rw [if_neg c1]
      have e2n := names_in_ok w1 (by omega)
      have names : ∀ (C : String) (f : List Tx → Tr), (∀ ns, (f ns).fitO = .obj C [("names", .lst (ns.map Dx.str))]) → ((m_names_in [.cell n] S1).bind (fun v s1 => (m_Named_init [v] s1).bind fun fs s2 => R.ok (Dx.obj C fs) s2) = q_fit_in (m + 1) [.cell n, .int a] s) → RF n ws s (q_fit_in (m + 1) [.cell n, .int a] s) (pNames f r) := fun C f hf e => by
        have e2 := names_in_ok w1 (by omega)
        rw [d1] at e2
        rw [e2] at e
        obtain ⟨S2, hS2⟩ : ∃ S2, S2 = S1.set n (wordsC ws (k + 1 + (r.takeWhile nameB).length)) ++ [Cl.lst ((r.takeWhile nameB).map Dx.str)] := ⟨_, rfl⟩
        rw [← hS2] at e
        have hnm : ∀ z ∈ r.takeWhile nameB, nameB z = true := fun z hz => List.all_eq_true.mp (List.all_takeWhile (p := nameB) (l := r)) z hz
        have htl : (r.takeWhile nameB).length ≤ r.length := (List.takeWhile_sublist _).length_le
        have ham : asM S2 (.cell S1.length) = some ((r.takeWhile nameB).map Dx.str) := by
          rw [hS2]; simp [asM]
        unfold pNames
        by_cases c : r.takeWhile nameB ≠ [] ∧ (r.takeWhile nameB).Nodup
        · rw [if_pos c]
          have e3 := named_ok (s := S2) ⟨hnm, c.2, c.1⟩ (by omega) ham
          refine ⟨S2, k + 1 + (r.takeWhile nameB).length, ?_, ⟨?_, ?_, w1.2.2⟩, ?_, ?_⟩
          · rw [hS2]; exact u1.trans ((Up.set _).trans (Up.app _))
          · rw [hS2, List.getElem?_append_left (by simpa using hn1), List.getElem?_set_self hn1]
          · have : (ws.drop (k + 1)).length = r.length := by rw [d1]
            simp at this
            have := w1.2.1
            omega
          · rw [← List.drop_drop, d1]
          · rw [← e]; simp [e3, hf]
        · rw [if_neg c]
          have e3 := named_no (s := S2) hnm (by omega) ham c
          exact ⟨_, _, S2, bad_f, by rw [hS2]; exact u1.trans ((Up.set _).trans (Up.app _)), by rw [← e]; simp [e3]⟩
      rw [← q_fit_in_s]
      by_cases c2 : w = tx "kind"
      · subst c2
        exact names "Kind" .kind (fun ns => by simp [Tr.fitO]) (by
          rw [q_fit_in_s, e2n]
          cases hN : m_Named_init [.cell S1.length] (S1.set n (wordsC ws (k + 1 + ((ws.drop (k + 1)).takeWhile nameB).length)) ++ [.lst (((ws.drop (k + 1)).takeWhile nameB).map Dx.str)]) <;> simp [-List.drop_drop, -List.length_drop, b_fit_in, h40, unless_ok, hw', List.lookup, e1, e2n, hN, tx_inj])
      rw [if_neg c2]
      by_cases c3 : w = tx "place"
      · subst c3
        exact names "Place" .place (fun ns => by simp [Tr.fitO]) (by
          rw [q_fit_in_s, e2n]
          cases hN : m_Named_init [.cell S1.length] (S1.set n (wordsC ws (k + 1 + ((ws.drop (k + 1)).takeWhile nameB).length)) ++ [.lst (((ws.drop (k + 1)).takeWhile nameB).map Dx.str)]) <;> simp [-List.drop_drop, -List.length_drop, b_fit_in, h40, unless_ok, hw', List.lookup, e1, e2n, hN, tx_inj])
      rw [if_neg c3]
      by_cases c4 : w = tx "weight"
      · subst c4
        rw [if_pos rfl, q_fit_in_s]
        cases r with
        | nil =>
          have e2 := next_number_over w1 d1
          exact ⟨_, _, S1, bad_t, u1, by simp [b_fit_in, h40, unless_ok, hw', w1', List.lookup, e1, e2, tx_inj]⟩
        | cons x r =>
          have e2 := next_number_ok w1 d1
          obtain ⟨_, w2, d2, _⟩ := next_ok w1 d1
          obtain ⟨S2, hS2⟩ : ∃ S2, S2 = S1.set n (wordsC ws (k + 1 + 1)) := ⟨_, rfl⟩
          rw [← hS2] at e2 w2
          simp only [pWeight]
          cases hx : numW x with
          | none =>
            rw [hx] at e2
            exact ⟨_, _, S2, bad_t, u1.trans (by rw [hS2]; exact Up.set _), by simp [b_fit_in, h40, unless_ok, hw', w1', List.lookup, e1, e2, tx_inj]⟩
          | some i =>
            rw [hx] at e2
            have e3 := least_ok (d := .int i) (s := S2) rfl
            simp only
            by_cases hi : 0 ≤ i
            · rw [if_pos (by simp [ge, hi])] at e3
              rw [if_pos hi]
              exact ⟨S2, k + 1 + 1, u1.trans (by rw [hS2]; exact Up.set _), w2, d2, by simp [b_fit_in, h40, unless_ok, hw', w1', List.lookup, e1, e2, e3, tx_inj, Tr.fitO]⟩
            · rw [if_neg (by simp [ge]; omega)] at e3
              rw [if_neg hi]
              exact ⟨_, _, S2, bad_f, u1.trans (by rw [hS2]; exact Up.set _), by simp [b_fit_in, h40, unless_ok, hw', w1', List.lookup, e1, e2, e3, tx_inj]⟩
      rw [if_neg c4]
      by_cases c5 : w = tx "not"
      · subst c5
        rw [if_pos rfl, q_fit_in_s]
        have ih := fit_ok hws d m (a + 1) (by omega) (by omega) (by omega) S1 (k + 1) w1
        rw [d1] at ih
        cases hp : pFit d r with
        | none =>
          rw [hp] at ih
          obtain ⟨C, fs, S2, hb, uq, e2⟩ := ih
          exact ⟨C, fs, S2, hb, u1.trans uq, by simp [b_fit_in, h40, unless_ok, hw', List.lookup, e1, e2, tx_inj]⟩
        | some q =>
          obtain ⟨t, r2⟩ := q
          rw [hp] at ih
          obtain ⟨S2, k2, u2, w2, d2, e2⟩ := ih
          obtain ⟨C, fs, ef, hC⟩ := fitO_obj t
          have e3 := not_init_ok (fs := fs) (s := S2) hC
          rw [ef] at e2
          exact ⟨S2, k2, u1.trans u2, w2, d2, by simp [b_fit_in, h40, unless_ok, hw', List.lookup, e1, e2, e3, tx_inj, Tr.fitO, ef]⟩
      rw [if_neg c5]
      by_cases c6 : w = tx "("
      · subst c6
        rw [if_pos rfl, q_fit_in_s]
        obtain ⟨m, rfl⟩ : ∃ g, m = g + 1 := ⟨m - 1, by omega⟩
        have ih := sev_ok (n := n) (r2 := q_several_in m) hws (fun s k hw => fit_ok hws d m (a + 1) (by omega) (by omega) (by omega) s k hw) (fun r t r' h => (pFit_took d r t r' h).lt) S1 (k + 1) w1
        rw [d1, ← q_several_in_s] at ih
        cases hp : pSev (pFit d) r with
        | none =>
          rw [hp] at ih
          obtain ⟨C, fs, S2, hb, uq, e2⟩ := ih
          exact ⟨C, fs, S2, hb, u1.trans uq, by simp [b_fit_in, h40, unless_ok, hw', List.lookup, e1, e2, tx_inj]⟩
        | some q =>
          obtain ⟨t, r2⟩ := q
          rw [hp] at ih
          obtain ⟨S2, k2, u2, w2, d2, e2⟩ := ih
          exact ⟨S2, k2, u1.trans u2, w2, d2, by simp [b_fit_in, h40, unless_ok, hw', List.lookup, e1, e2, tx_inj]⟩
      · rw [if_neg c6, q_fit_in_s]
        exact ⟨_, _, S1, bad_t, u1, by simp [b_fit_in, h40, unless_ok, hw', List.lookup, e1, c1, c2, c3, c4, c5, c6]⟩

end Mo
namespace Mo
open Pm
theorem read_fit_ok (z : Tx) (s : Sto) (hz : z.length ≤ 1000000) (hw : (wordsOf z).length ≤ 900) : match fitOf z with
    | some t => ∃ S, s.length ≤ S.length ∧ (∀ i, i < s.length → S[i]? = s[i]?) ∧ m_read_fit [.str z] s = .ok t.fitO S
    | none => ∃ S, s.length ≤ S.length ∧ (∀ i, i < s.length → S[i]? = s[i]?) ∧ m_read_fit [.str z] s = .exc "NoText" [("line", .int 0)] S := by
  have h0 : WsAt (s ++ [wordsC (wordsOf z) 0]) s.length (wordsOf z) 0 := ⟨by simp, by omega, by omega, fun w hw => by
    have := spl_small (tx " ") z 0 [] w hw
    simp at this; omega⟩
  have q := fit_ok (by omega) 40 90 0 (by omega) (by omega) (by omega) (s ++ [wordsC (wordsOf z) 0]) 0 h0
  have mf : m_fit_in = q_fit_in 90 := rfl
  rw [List.drop_zero] at q
  have wm := words_made z s hz
  unfold fitOf
  cases hp : pFit 40 (wordsOf z) with
  | none =>
    rw [hp] at q
    obtain ⟨C, fs, S, hb, u, e⟩ := q
    have uk : s.length ≤ S.length ∧ ∀ i, i < s.length → S[i]? = s[i]? := ⟨by have := u.1; simp at this; omega, fun i hi => by rw [u.2 i (by simp; omega) (by omega) (by omega), List.getElem?_append_left hi]⟩
    rcases hb with ⟨rfl, rfl⟩ | ⟨rfl, rfl⟩
    · exact ⟨S, uk.1, uk.2, by simp [wordsC] at e; simp [m_read_fit, b_read_fit, m_read_by, b_read_by, wm, mf, e]⟩
    · exact ⟨S, uk.1, uk.2, by simp [wordsC] at e; simp [m_read_fit, b_read_fit, m_read_by, b_read_by, wm, mf, e]⟩
  | some tr =>
    obtain ⟨t, r⟩ := tr
    rw [hp] at q
    obtain ⟨S, k, u, w1, d1, e⟩ := q
    have o1 := is_over_ok w1
    have w1' : S[s.length]? = some (.obj "Words" [("some", .lst ((wordsOf z).map Dx.str)), ("at", .int k)]) := w1.1
    cases r with
    | nil =>
      have hk : k = (wordsOf z).length := by
        have := List.drop_eq_nil_iff.mp d1
        have := w1.2.1
        omega
      rw [decide_eq_true hk] at o1
      refine ⟨S, by have := u.1; simp at this; omega, fun i hi => ?_, ?_⟩
      · rw [u.2 i (by simp; omega) (by omega) (by omega), List.getElem?_append_left hi]
      · simp [m_read_fit, b_read_fit, m_read_by, b_read_by, wm, mf]
        simp [wordsC] at e
        simp [e, m_Words_end, b_Words_end, w1', List.lookup, o1, unless_ok]
    | cons b r =>
      have hk : ¬ k = (wordsOf z).length := fun q => by
        rw [q, List.drop_length] at d1
        cases d1
      rw [decide_eq_false hk] at o1
      refine ⟨S, by have := u.1; simp at this; omega, fun i hi => by rw [u.2 i (by simp; omega) (by omega) (by omega), List.getElem?_append_left hi], ?_⟩
      simp [m_read_fit, b_read_fit, m_read_by, b_read_by, wm, mf]
      simp [wordsC] at e
      simp [e, m_Words_end, b_Words_end, w1', List.lookup, o1, unless_ok]
theorem read_fit_no {d : Dx} (s : Sto) (h : Known s d = true) (k : isB s "str" d = false) : ∃ S, s.length ≤ S.length ∧ (∀ i, i < s.length → S[i]? = s[i]?) ∧ m_read_fit [d] s = .exc "NoText" [("line", .int 0)] S := by
  have e := isTy_known h "str"
  rw [k] at e
  have e2 : isTy (s ++ [Cl.obj "Words" []]) "str" d = some false := by
    cases d with
    | cell n =>
      simp only [Known] at h
      cases hs : s[n]? with
      | none => rw [hs] at h; cases h
      | some c =>
        have hn : n < s.length := (List.getElem?_eq_some_iff.mp hs).1
        have : (s ++ [Cl.obj "Words" []])[n]? = some c := by rw [List.getElem?_append_left hn]; exact hs
        cases c <;> simp [isTy, this]
    | _ => exact e
  refine ⟨s ++ [Cl.obj "Words" []], by simp, fun i hi => List.getElem?_append_left hi, ?_⟩
  simp [m_read_fit, b_read_fit, m_read_by, b_read_by, m_Words_init, b_Words_init, e2, unless_ok]

end Mo
namespace Mo
open Pm
theorem told_ok (z : Tx) (s : Sto) (hz : z.length ≤ 1000000) (hw : (wordsOf z).length ≤ 900) : ∃ l, m_law_told [.str z] s = .ok (match fitOf z with
    | some t => .tup [t.fitO, .int (-1)]
    | none => .tup [.non, .int 0]) (s ++ l) := by
  have q := read_fit_ok z s hz hw
  cases hf : fitOf z with
  | none =>
    rw [hf] at q
    obtain ⟨S, k1, k2, e⟩ := q
    obtain ⟨l, rfl⟩ := kept k1 k2
    exact ⟨l, by simp [m_law_told, b_law_told, e]⟩
  | some t =>
    rw [hf] at q
    obtain ⟨S, k1, k2, e⟩ := q
    obtain ⟨l, rfl⟩ := kept k1 k2
    exact ⟨l, by simp [m_law_told, b_law_told, e]⟩

end Mo
namespace Mo
open Pm
theorem law_text_ok : ∀ (d n b : Nat) (t : Tr) (s : Sto), d < n → t.Ok d b → (trT t).length ≤ 100000 → q_law_text n [t.dx] s = .ok (.str (trT t)) s
  | d, 0, _, _, _, h, _, _ => by omega
  | d, n + 1, b, t, s, h, ht, hl => by
    rw [q_law_text_s]
    cases t with
    | any => simp [b_law_text, Tr.dx]; rfl
    | weight i =>
      unfold Tr.Ok at ht
      have e := strD_small (i := i) (s := s) (by omega) (by omega)
      have e2 : trT (.weight i) = tx "weight " ++ txI i := by
        unfold trT
        simp [wd, joinT]
        rw [← List.append_assoc]
        rfl
      rw [e2] at hl ⊢
      simp at hl
      simp [-strD_i, b_law_text, Tr.dx, tx_inj, e, show (tx "weight ").length + (txI i).length ≤ 1000000 from by omega]
    | kind ns =>
      unfold Tr.Ok at ht
      have e2 : trT (.kind ns) = tx "kind" ++ (tx " " ++ joinT (tx " ") ns) := by
        unfold trT
        rw [wd, ← List.singleton_append, join_app _ (by simp) ht.1.2.2]
        simp [joinT]
      rw [e2] at hl ⊢
      have hs := names_sum ns (tx " ")
      simp only [List.length_append] at hl
      have t1 : (tx " ").length = 1 := rfl
      have t2 : (tx "kind").length = 4 := rfl
      simp [b_law_text, Tr.dx, tx_inj, strs_strs, show (ns.map (·.length)).sum + ns.length * (tx " ").length ≤ 1000000 from by omega, show (tx "kind").length + (tx " ").length ≤ 1000000 from by decide, show (tx "kind").length + (tx " ").length + (joinT (tx " ") ns).length ≤ 1000000 from by omega]
    | place ns =>
      unfold Tr.Ok at ht
      have e2 : trT (.place ns) = tx "place" ++ (tx " " ++ joinT (tx " ") ns) := by
        unfold trT
        rw [wd, ← List.singleton_append, join_app _ (by simp) ht.1.2.2]
        simp [joinT]
      rw [e2] at hl ⊢
      have hs := names_sum ns (tx " ")
      simp only [List.length_append] at hl
      have t1 : (tx " ").length = 1 := rfl
      have t2 : (tx "place").length = 5 := rfl
      simp [b_law_text, Tr.dx, tx_inj, strs_strs, show (ns.map (·.length)).sum + ns.length * (tx " ").length ≤ 1000000 from by omega, show (tx "place").length + (tx " ").length ≤ 1000000 from by decide, show (tx "place").length + (tx " ").length + (joinT (tx " ") ns).length ≤ 1000000 from by omega]
    | not t =>
      cases d with
      | zero => unfold Tr.Ok at ht; exact ht.elim
      | succ d =>
        unfold Tr.Ok at ht
        rw [trT_not] at hl ⊢
        simp only [List.length_append] at hl
        have ih := law_text_ok d n b t s (by omega) ht (by omega)
        simp [b_law_text, Tr.dx, tx_inj, ih, show (tx "not ").length + (trT t).length ≤ 1000000 from by omega]
    | both ts =>
      cases d with
      | zero => unfold Tr.Ok at ht; exact ht.elim
      | succ d =>
        unfold Tr.Ok at ht
        obtain ⟨h1, h2, c, h3, h4⟩ := ht
        have hne : ts ≠ [] := fun q => by rw [q] at h1; simp at h1
        have e2 : trT (.both ts) = tx "( " ++ (joinT (tx " & ") (ts.map trT) ++ tx " )") := by
          rw [join_map (tx "&") (tx " & ") rfl ts hne]
          exact trT_sev (tx "&") ts hne
        rw [e2] at hl ⊢
        simp only [List.length_append] at hl
        obtain ⟨p1, p2⟩ := parts_sum ts trT (tx " & ")
        have t1 : (tx " & ").length = 3 := rfl
        have t2 : (tx "( ").length = 2 := rfl
        have t3 : (tx " )").length = 2 := rfl
        have e1 := lcL_all (g := hNm 2) (te := eCall (q_law_text n) (aCons (eVar 2) aNil)) (e := ⟨[some (.tup [.str (tx "both"), .tup (ts.map Tr.dx)]), some (.str (tx " & ")), none], [], none⟩) (c := none) (all := ts.map Tr.dx) (s := s) (em := Tr.dx) (f := fun t => .str (trT t)) trivial ts (fun t ht => ⟨_, rfl, by
          have := part_len (s := tx " & ") (f := trT) ht
          simp [law_text_ok d n c t s (by omega) (h4 t ht) (by omega)]⟩)
        have e3 := strs_map trT (fun t => .str (trT t)) (fun _ => rfl) ts
        simp only [List.length_map] at p2
        simp only [List.map_map] at p1
        simp [b_law_text, Tr.dx, tx_inj, dxL_map, e1, e3, show ts.length ≤ 1000000 from by omega, show (ts.map ((fun x => x.length) ∘ trT)).sum + ts.length * (tx " & ").length ≤ 1000000 from by omega, show (tx "( ").length + (joinT (tx " & ") (ts.map trT)).length ≤ 1000000 from by omega, show (tx "( ").length + (joinT (tx " & ") (ts.map trT)).length + (tx " )").length ≤ 1000000 from by omega]
    | either ts =>
      cases d with
      | zero => unfold Tr.Ok at ht; exact ht.elim
      | succ d =>
        unfold Tr.Ok at ht
        obtain ⟨h1, h2, c, h3, h4⟩ := ht
        have hne : ts ≠ [] := fun q => by rw [q] at h1; simp at h1
        have e2 : trT (.either ts) = tx "( " ++ (joinT (tx " | ") (ts.map trT) ++ tx " )") := by
          rw [join_map (tx "|") (tx " | ") rfl ts hne]
          exact trT_sev (tx "|") ts hne
        rw [e2] at hl ⊢
        simp only [List.length_append] at hl
        obtain ⟨p1, p2⟩ := parts_sum ts trT (tx " | ")
        have t1 : (tx " | ").length = 3 := rfl
        have t2 : (tx "( ").length = 2 := rfl
        have t3 : (tx " )").length = 2 := rfl
        have e1 := lcL_all (g := hNm 2) (te := eCall (q_law_text n) (aCons (eVar 2) aNil)) (e := ⟨[some (.tup [.str (tx "either"), .tup (ts.map Tr.dx)]), some (.str (tx " | ")), none], [], none⟩) (c := none) (all := ts.map Tr.dx) (s := s) (em := Tr.dx) (f := fun t => .str (trT t)) trivial ts (fun t ht => ⟨_, rfl, by
          have := part_len (s := tx " | ") (f := trT) ht
          simp [law_text_ok d n c t s (by omega) (h4 t ht) (by omega)]⟩)
        have e3 := strs_map trT (fun t => .str (trT t)) (fun _ => rfl) ts
        simp only [List.length_map] at p2
        simp only [List.map_map] at p1
        simp [b_law_text, Tr.dx, tx_inj, dxL_map, e1, e3, show ts.length ≤ 1000000 from by omega, show (ts.map ((fun x => x.length) ∘ trT)).sum + ts.length * (tx " | ").length ≤ 1000000 from by omega, show (tx "( ").length + (joinT (tx " | ") (ts.map trT)).length ≤ 1000000 from by omega, show (tx "( ").length + (joinT (tx " | ") (ts.map trT)).length + (tx " )").length ≤ 1000000 from by omega]

end Mo
namespace Mo
open Pm
theorem name_ok (s0 l : Sto) {z : Cl} (hz : IsSt z) : ∃ v z', IsSt z' ∧ nameB v = true ∧ m_law_name [.cell s0.length] (s0 ++ z :: l) = .ok (.str v) (s0 ++ z' :: l) := by
  obtain ⟨v1, z1, hz1, a1, b1, e1⟩ := nx s0 l hz 4 (by decide)
  by_cases c0 : v1 = 0
  · subst c0
    obtain ⟨v2, z2, hz2, a2, b2, e2⟩ := nx s0 l hz1 16 (by decide)
    obtain ⟨d, h1, h2⟩ := pyIx_mem (xs := ["any", "kind", "place", "weight", "not", "by", "now", "hour", "day", "never", "sure", "raise", "zone", "quiet", "a", "to"].map fun z => Dx.str (tx z)) a2 b2
    obtain ⟨y, hy, rfl⟩ := List.mem_map.mp h2
    refine ⟨tx y, z2, hz2, ?_, ?_⟩
    · have hall : ∀ y ∈ ["any", "kind", "place", "weight", "not", "by", "now", "hour", "day", "never", "sure", "raise", "zone", "quiet", "a", "to"], nameB (tx y) = true := by decide +kernel
      exact hall y hy
    · simp only [List.map_cons, List.map_nil] at h1
      simp [m_law_name, b_law_name, e1, e2, h1]
  by_cases c1 : v1 = 1
  · subst c1
    obtain ⟨v2, z2, hz2, a2, b2, e2⟩ := nx s0 l hz1 8 (by decide)
    obtain ⟨w, hw⟩ : ∃ w : Tx, w = (tx "bcdefghi").take (1 + v2).toNat := ⟨_, rfl⟩
    have hL : (tx "bcdefghi").length = 8 := by decide
    have hwl : w.length = (1 + v2).toNat := by rw [hw, List.length_take, hL]; omega
    obtain ⟨v3, z3, hz3, a3, b3, e3⟩ := nx s0 l hz2 w.length (by omega)
    obtain ⟨v4, z4, hz4, a4, b4, e4⟩ := nx s0 l hz3 3 (by decide)
    obtain ⟨c, h1, h2⟩ := pyIx_mem (xs := tx "axz") a4 (by rw [show (tx "axz").length = 3 from by decide]; exact b4)
    have hc : cut (tx "bcdefghi") none (some (1 + v2)) = w := by rw [cut_to _ _ (by omega), hw]
    have hlm : w.length ≤ 1000000 := by omega
    refine ⟨w.take v3.toNat ++ [c] ++ w.drop (v3 + 1).toNat, z4, hz4, ?_, ?_⟩
    · have hb : ∀ c ∈ tx "bcdefghi", c ∈ letters := by decide +kernel
      have ha : ∀ c ∈ tx "axz", c ∈ letters := by decide +kernel
      have hwm : ∀ c ∈ w, c ∈ letters := fun c hc => hb c (by rw [hw] at hc; exact List.mem_of_mem_take hc)
      refine nameB_of (by simp) (by simp; omega) fun q hq => ?_
      simp only [List.mem_append, List.mem_singleton] at hq
      rcases hq with (hq | rfl) | hq
      · exact hwm q (List.mem_of_mem_take hq)
      · exact ha _ h2
      · exact hwm q (List.mem_of_mem_drop hq)
    · simp [m_law_name, b_law_name, e1, e2, e3, e4, h1, hc, hL, hlm, cut_to w v3 a3, cut_from w (v3 + 1) (by omega), show (tx "axz").length = 3 from by decide, show min v3.toNat w.length + 1 ≤ 1000000 from by omega, show min v3.toNat w.length + 1 + (w.length - (v3 + 1).toNat) ≤ 1000000 from by omega]
  obtain ⟨v2, z2, hz2, a2, b2, e2⟩ := nx s0 l hz1 8 (by decide)
  have hA : (tx "abcdefghijklmnopqrstuvwxyz").length = 26 := by decide
  obtain ⟨ys, s3, h3, ⟨z3, hz3, rfl⟩, h4, h5⟩ := lcL_inv (g := hNm 6) (tt := uYes) (te := eOp ixD (eVar 1) (eCall m_law_next (aCons (eVar 0) (aCons (eC (.int 26)) aNil)))) (e := ⟨[some (.cell s0.length), some (.str (tx "abcdefghijklmnopqrstuvwxyz")), some (.int v1), none, none, none, none], [], none⟩)
    (c := none) (all := rng 0 (1 + v2).toNat) (P := fun s => ∃ z, IsSt z ∧ s = s0 ++ z :: l) (R := fun y => ∃ c, c ∈ letters ∧ y = .str [c]) (fun _ _ => trivial) (rng 0 (1 + v2).toNat) (fun x hx s ⟨z, hz, hs⟩ => by
      subst hs
      obtain ⟨v, z', hz', a, b, e⟩ := nx s0 l hz 26 (by decide)
      obtain ⟨c, h1, h2⟩ := pyIx_mem (xs := tx "abcdefghijklmnopqrstuvwxyz") a (by rw [hA]; exact b)
      exact ⟨_, .str [c], s0 ++ z' :: l, rfl, rfl, by simp [e, h1, hA], ⟨z', hz', rfl⟩, c, h2, rfl⟩) (s0 ++ z2 :: l) ⟨z2, hz2, rfl⟩
  obtain ⟨zs, h6, h7, h8⟩ := one_strs h5
  obtain ⟨h9, h10, h11⟩ := one_join h8
  have hn : zs.length = (1 + v2).toNat := by rw [h7, h4, rng_len]
  refine ⟨joinT [] zs, z3, hz3, nameB_of (fun e => by rw [e] at h9; simp at h9; omega) (by omega) h10, ?_⟩
  have e0 : tx "" = [] := rfl
  simp [m_law_name, b_law_name, e1, e2, c0, c1, h3, rng_len, h6, h11, e0, show -1152921504606846976 ≤ 1 + v2 from by omega, show 1 + v2 ≤ 1152921504606846976 from by omega, show (1 + v2).toNat ≤ 1000000 from by omega, show zs.length ≤ 1000000 from by omega]

end Mo
namespace Mo
open Pm
def LeafI (s0 l : Sto) (more v : Int) (i : Nat) (e : En) (s : Sto) : Prop := ∃ (z : Cl) (ns : List Tx) (x4 x5 : Option Dx), IsSt z ∧ NmL ns ∧ ns.length ≤ 1 + i ∧ e = ⟨[some (.cell s0.length), some (.int more), some (.int v), some (.cell (s0.length + (l.length + 1))), x4, x5], [], none⟩ ∧ s = s0 ++ z :: (l ++ [.lst (ns.map Dx.str)])
def LeafP (s0 l : Sto) (more : Int) (r : R Dx) : Prop := ∃ (t : Tr) (z' : Cl) (l' : Sto), IsSt z' ∧ t.Ok 0 (1 + more).toNat ∧ r = .ok t.dx (s0 ++ z' :: (l ++ l'))
theorem leaf_ok (s0 l : Sto) {z : Cl} (hz : IsSt z) (more : Int) (hm : 0 ≤ more ∧ more ≤ 5) : LeafP s0 l more (m_law_leaf [.cell s0.length, .int more] (s0 ++ z :: l)) := by
  obtain ⟨v1, z1, i1, a1, b1, e1⟩ := nx s0 l hz 7 (by decide)
  by_cases c0 : v1 = 0
  · subst c0
    exact ⟨.any, z1, [], i1, by unfold Tr.Ok; omega, by simp [m_law_leaf, b_law_leaf, e1, Tr.dx]⟩
  by_cases c1 : v1 < 3
  · obtain ⟨v2, z2, i2, a2, b2, e2⟩ := nx s0 l i1 9 (by decide)
    obtain ⟨v3, z3, i3, a3, b3, e3⟩ := nx s0 l i2 1000000 (by decide)
    obtain ⟨v4, z4, i4, a4, b4, e4⟩ := nx s0 l i3 3 (by decide)
    obtain ⟨d, g, hd⟩ := pick (xs := [Dx.int v2, .int v3]) (v := v4 / 2) (P := fun d => ∃ i : Int, d = .int i ∧ (0 ≤ i ∧ i < 1000000)) (by omega) (by simp; omega) (by
      simp only [List.forall_mem_cons, List.not_mem_nil, false_implies, implies_true, and_true]
      exact ⟨⟨_, rfl, a2, by omega⟩, ⟨_, rfl, a3, by omega⟩⟩)
    obtain ⟨w, rfl, hw⟩ := hd
    exact ⟨.weight w, z4, [], i4, by unfold Tr.Ok; exact ⟨hw, by omega⟩, by simp [m_law_leaf, b_law_leaf, e1, c0, c1, e2, e3, e4, g, Tr.dx]⟩
  · refine mk_R rfl ?_
    obtain ⟨nm, z2, i2, hnm, e2⟩ := name_ok s0 l i1
    obtain ⟨v3, z3, i3, a3, b3, e3⟩ := nx s0 (l ++ [.lst [.str nm]]) i2 (1 + more) (by omega)
    simp [b_law_leaf, e1, c0, c1, e2, e3, show -1152921504606846976 ≤ v3 from by omega, show v3 ≤ 1152921504606846976 from by omega]
    refine forL_okX (c := none) (P := LeafI s0 l more v1) (Z := fun r => LeafP s0 l more (toR (S.sq r _))) (fun _ _ _ _ => trivial) _ ?_ ?_ _ _ ⟨z3, [nm], none, none, i3, ⟨by simpa using hnm, by simp, by simp⟩, by simp, rfl, by simp⟩
    · rintro e s ⟨z, ns, x4, x5, iz, hn, hl, rfl, rfl⟩
      rw [rng_len] at hl
      have hb : ns.length ≤ (1 + more).toNat := by omega
      rcases (show v1 % 2 = 0 ∨ v1 % 2 = 1 by omega) with h | h
      · exact ⟨.kind ns, z, _, iz, by unfold Tr.Ok; exact ⟨hn, hb⟩, by simp [toR, h, Tr.dx]; rfl⟩
      · exact ⟨.place ns, z, _, iz, by unfold Tr.Ok; exact ⟨hn, hb⟩, by simp [toR, h, Tr.dx]; rfl⟩
    · rintro i x hx e s ⟨z, ns, x4, x5, iz, hn, hl, rfl, rfl⟩
      obtain ⟨hi, rfl⟩ := rng_at hx
      refine ⟨_, rfl, ?_⟩
      obtain ⟨nm2, y1, j1, hnm2, f1⟩ := name_ok s0 (l ++ [.lst (ns.map Dx.str)]) iz
      have q := inD_names (s := s0 ++ y1 :: (l ++ [.lst (ns.map Dx.str)])) (n := s0.length + (l.length + 1)) (v := nm2) (zs := ns) true (by simp)
      by_cases hmem : nm2 ∈ ns
      · simp only [hmem, decide_true, Bool.bne_true] at q
        simp [-inD_cell, l_law_leaf_1, f1, q]
        exact ⟨y1, ns, _, _, j1, hn, by omega, rfl, rfl⟩
      · simp only [hmem, decide_false] at q
        simp [-inD_cell, l_law_leaf_1, f1, q, show ns.length < 1000000 from by omega]
        refine ⟨y1, ns ++ [nm2], _, _, j1, ⟨fun z hz => ?_, ?_, by simp⟩, by simp; omega, rfl, by simp⟩
        · rcases List.mem_append.mp hz with h | h
          · exact hn.1 z h
          · rw [List.mem_singleton.mp h]; exact hnm2
        · rw [List.nodup_append]
          exact ⟨hn.2.1, by simp, fun a ha b hb => by rw [List.mem_singleton.mp hb]; exact fun e => hmem (e ▸ ha)⟩

end Mo
namespace Mo
open Pm
def TreeP (s0 l : Sto) (d b : Nat) (r : R Dx) : Prop := ∃ (t : Tr) (z' : Cl) (l' : Sto), IsSt z' ∧ t.Ok d b ∧ r = .ok t.dx (s0 ++ z' :: (l ++ l'))
/-- the deepest a tree's names and weights may be many -/
def most3 (more : Int) : Nat → Nat
  | 0 => (1 + more).toNat
  | d + 1 => 3 * most3 more d
theorem most3_s (more : Int) (d : Nat) : most3 more (d + 1) = 3 * most3 more d := rfl
theorem most3_pos {more : Int} (hm : 0 ≤ more) : ∀ d, (1 + more).toNat ≤ most3 more d
  | 0 => Nat.le_refl _
  | d + 1 => by have := most3_pos hm d; unfold most3; omega
theorem tree_ok (more : Int) (hm : 0 ≤ more ∧ more ≤ 5) : ∀ (d n : Nat), d < n → d ≤ 10 → ∀ (s0 l : Sto) {z : Cl}, IsSt z → TreeP s0 l d (most3 more d) (q_law_tree n [.cell s0.length, .int d, .int more] (s0 ++ z :: l))
  | d, 0, h, _ => by omega
  | d, n + 1, h, h10 => fun s0 l z hz => by
    rw [q_law_tree_s]
    obtain ⟨v1, z1, i1, a1, b1, e1⟩ := nx s0 l hz 8 (by decide)
    have mul0 : ∀ S : Sto, mulD (.int more) (.int 0) S = .ok (.int 0) S := fun S => by rw [mulD_ii, if_pos (.inl (by omega)), Int.mul_zero]
    have mul1 : ∀ S : Sto, mulD (.int more) (.int 1) S = .ok (.int more) S := fun S => by rw [mulD_ii, if_pos (.inl (by omega)), Int.mul_one]
    by_cases c : d = 0 ∨ v1 < 3
    · have hp := most3_pos hm.1 d
      by_cases c0 : d = 0
      · subst c0
        obtain ⟨t, z2, l2, i2, ht, e2⟩ := leaf_ok s0 l i1 0 (by omega)
        exact ⟨t, z2, l2, i2, ht.more (by omega), by simp [-mulD_ii, b_law_tree, e1, mul0, e2]⟩
      · obtain ⟨t, z2, l2, i2, ht, e2⟩ := leaf_ok s0 l i1 more (by omega)
        have c : v1 < 3 := c.elim (fun h => absurd h c0) id
        exact ⟨t, z2, l2, i2, (ht.more (by omega)).deep (Nat.zero_le d), by simp [-mulD_ii, b_law_tree, e1, c, c0, Nat.pos_of_ne_zero c0, mul1, e2]⟩
    · obtain ⟨c0, c1⟩ := not_or.mp c
      obtain ⟨m, rfl⟩ : ∃ m, d = m + 1 := ⟨d - 1, by omega⟩
      have ih := tree_ok more hm m n (by omega) (by omega)
      have hsub : ((m + 1 : Nat) : Int) - 1 = m := by omega
      have hne : ¬ (((m + 1 : Nat) : Int) = 0) := by omega
      by_cases c3 : v1 = 3
      · obtain ⟨t, z2, l2, i2, ht, e2⟩ := ih s0 l i1
        refine ⟨.not t, z2, l2, i2, by unfold Tr.Ok; exact ht.more (by have := most3_s more m; omega), ?_⟩
        simp [b_law_tree, e1, c3, e2, Tr.dx, show ¬ ((m : Int) + 1 = 0) from by omega, show (m : Int) + 1 - 1 = m from by omega]
      · obtain ⟨k, hk⟩ : ∃ k : Int, k = 2 + (if (decide (2 < (m : Int) + 1) && decide (5 < v1)) = true then 1 else 0) := ⟨_, rfl⟩
        have hk2 : 2 ≤ k ∧ k ≤ 3 := by rw [hk]; split <;> omega
        obtain ⟨ys, S4, l1, ⟨z4, l4, i4, rfl⟩, l2, l3⟩ := lcL_inv (g := hNm 5) (tt := uYes) (te := e_law_tree_1 (q_law_tree n)) (e := ⟨[some (.cell s0.length), some (.int ((m : Int) + 1)), some (.int more), some (.int v1), none, none], [], none⟩)
          (c := none) (all := rng 0 k.toNat) (P := fun S => ∃ z l', IsSt z ∧ S = s0 ++ z :: (l ++ l')) (R := fun y => ∃ t : Tr, y = t.dx ∧ t.Ok m (most3 more m)) (fun _ _ => trivial) (rng 0 k.toNat) (fun x hx S ⟨z, l', hz, hs⟩ => by
            subst hs
            obtain ⟨t, z2, l2, i2, ht, e2⟩ := ih s0 (l ++ l') hz
            exact ⟨_, t.dx, s0 ++ z2 :: (l ++ l' ++ l2), rfl, rfl, by simp [e_law_tree_1, show (m : Int) + 1 - 1 = m from by omega, e2], ⟨z2, l' ++ l2, i2, by simp⟩, t, rfl, ht⟩) (s0 ++ z1 :: l) ⟨z1, [], i1, by simp⟩
        obtain ⟨ts, rfl, hts⟩ := trees_of l3
        have htl : ts.length = k.toNat := by simpa [rng_len] using l2
        have hb : ts.length * most3 more m ≤ most3 more (m + 1) := by
          rw [most3_s]
          exact Nat.mul_le_mul_right _ (by omega)
        rcases (show v1 % 2 = 0 ∨ v1 % 2 = 1 by omega) with h | h
        · refine ⟨.both ts, z4, l4, i4, by unfold Tr.Ok; exact ⟨by omega, by omega, _, hb, hts⟩, ?_⟩
          by_cases q1 : 2 < (m : Int) + 1 <;> by_cases q2 : 5 < v1 <;> simp [q1, q2] at hk <;> subst hk <;> simp only [show Int.toNat 3 = 3 from rfl, show Int.toNat 2 = 2 from rfl] at l1 htl <;>
            simp [b_law_tree, e1, c1, c3, show ¬ ((m : Int) + 1 = 0) from by omega, q1, q2, rng_len, l1, h, Tr.dx, dxL_map, htl]
        · refine ⟨.either ts, z4, l4, i4, by unfold Tr.Ok; exact ⟨by omega, by omega, _, hb, hts⟩, ?_⟩
          by_cases q1 : 2 < (m : Int) + 1 <;> by_cases q2 : 5 < v1 <;> simp [q1, q2] at hk <;> subst hk <;> simp only [show Int.toNat 3 = 3 from rfl, show Int.toNat 2 = 2 from rfl] at l1 htl <;>
            simp [b_law_tree, e1, c1, c3, show ¬ ((m : Int) + 1 = 0) from by omega, q1, q2, rng_len, l1, h, Tr.dx, dxL_map, htl]

end Mo
namespace Mo
open Pm
theorem show_ok : ∀ (d n b : Nat) (t : Tr) (s : Sto), d < n → t.Ok d b → (trT t).length ≤ 100000 → q_show_fit n [t.fitO] s = .ok (.str (trT t)) s
  | d, 0, _, _, _, h, _, _ => by omega
  | d, n + 1, b, t, s, h, ht, hl => by
    rw [q_show_fit_s]
    cases t with
    | any => simp [b_show_fit, Tr.fitO]; rfl
    | weight i =>
      unfold Tr.Ok at ht
      have e := strD_small (i := i) (s := s) (by omega) (by omega)
      have e2 : trT (.weight i) = tx "weight " ++ txI i := by
        unfold trT
        simp [wd, joinT]
        rw [← List.append_assoc]
        rfl
      rw [e2] at hl ⊢
      simp at hl
      simp [-strD_i, b_show_fit, Tr.fitO, List.lookup, e, show (tx "weight ").length + (txI i).length ≤ 1000000 from by omega]
    | kind ns =>
      unfold Tr.Ok at ht
      have e2 : trT (.kind ns) = joinT (tx " ") (tx "kind" :: ns) := rfl
      rw [e2] at hl ⊢
      have hs := names_sum (tx "kind" :: ns) (tx " ")
      have t1 : (tx " ").length = 1 := rfl
      simp only [List.map_cons, List.sum_cons, List.length_cons] at hs
      have h5 := hs.2
      rw [t1, Nat.mul_one] at h5
      simp [b_show_fit, Tr.fitO, List.lookup, strs_strs, show 1 + ns.length ≤ 1000000 from by omega, show (tx "kind").length + (ns.map (·.length)).sum + (ns.length + 1) * (tx " ").length ≤ 1000000 from by omega]
    | place ns =>
      unfold Tr.Ok at ht
      have e2 : trT (.place ns) = joinT (tx " ") (tx "place" :: ns) := rfl
      rw [e2] at hl ⊢
      have hs := names_sum (tx "place" :: ns) (tx " ")
      have t1 : (tx " ").length = 1 := rfl
      simp only [List.map_cons, List.sum_cons, List.length_cons] at hs
      have h5 := hs.2
      rw [t1, Nat.mul_one] at h5
      simp [b_show_fit, Tr.fitO, List.lookup, strs_strs, show 1 + ns.length ≤ 1000000 from by omega, show (tx "place").length + (ns.map (·.length)).sum + (ns.length + 1) * (tx " ").length ≤ 1000000 from by omega]
    | not t =>
      cases d with
      | zero => unfold Tr.Ok at ht; exact ht.elim
      | succ d =>
        unfold Tr.Ok at ht
        rw [trT_not] at hl ⊢
        simp only [List.length_append] at hl
        have ih := show_ok d n b t s (by omega) ht (by omega)
        simp [b_show_fit, Tr.fitO, List.lookup, ih, show (tx "not ").length + (trT t).length ≤ 1000000 from by omega]
    | both ts =>
      cases d with
      | zero => unfold Tr.Ok at ht; exact ht.elim
      | succ d =>
        unfold Tr.Ok at ht
        obtain ⟨h1, h2, c, h3, h4⟩ := ht
        have hne : ts ≠ [] := fun q => by rw [q] at h1; simp at h1
        have e2 : trT (.both ts) = tx "( " ++ (joinT (tx " & ") (ts.map trT) ++ tx " )") := by
          rw [join_map (tx "&") (tx " & ") rfl ts hne]
          exact trT_sev (tx "&") ts hne
        rw [e2] at hl ⊢
        simp only [List.length_append] at hl
        obtain ⟨p1, p2⟩ := parts_sum ts trT (tx " & ")
        have t1 : (tx " & ").length = 3 := rfl
        have t2 : (tx "( ").length = 2 := rfl
        have t3 : (tx " )").length = 2 := rfl
        have e1 := lcL_all (g := hNm 1) (te := eCall (q_show_fit n) (aCons (eVar 1) aNil)) (e := ⟨[some (.obj "Both" [("fits", .lst (ts.map Tr.fitO))]), none], [], none⟩) (c := none) (all := ts.map Tr.fitO) (s := s) (em := Tr.fitO) (f := fun t => .str (trT t)) trivial ts (fun t ht => ⟨_, rfl, by
          have := part_len (s := tx " & ") (f := trT) ht
          simp [show_ok d n c t s (by omega) (h4 t ht) (by omega)]⟩)
        have e3 := strs_map trT (fun t => .str (trT t)) (fun _ => rfl) ts
        simp only [List.length_map] at p2
        simp only [List.map_map] at p1
        simp [b_show_fit, Tr.fitO, List.lookup, fitL_map, e1, e3, show ts.length ≤ 1000000 from by omega, show (ts.map ((fun x => x.length) ∘ trT)).sum + ts.length * (tx " & ").length ≤ 1000000 from by omega, show (tx "( ").length + (joinT (tx " & ") (ts.map trT)).length ≤ 1000000 from by omega, show (tx "( ").length + (joinT (tx " & ") (ts.map trT)).length + (tx " )").length ≤ 1000000 from by omega]
    | either ts =>
      cases d with
      | zero => unfold Tr.Ok at ht; exact ht.elim
      | succ d =>
        unfold Tr.Ok at ht
        obtain ⟨h1, h2, c, h3, h4⟩ := ht
        have hne : ts ≠ [] := fun q => by rw [q] at h1; simp at h1
        have e2 : trT (.either ts) = tx "( " ++ (joinT (tx " | ") (ts.map trT) ++ tx " )") := by
          rw [join_map (tx "|") (tx " | ") rfl ts hne]
          exact trT_sev (tx "|") ts hne
        rw [e2] at hl ⊢
        simp only [List.length_append] at hl
        obtain ⟨p1, p2⟩ := parts_sum ts trT (tx " | ")
        have t1 : (tx " | ").length = 3 := rfl
        have t2 : (tx "( ").length = 2 := rfl
        have t3 : (tx " )").length = 2 := rfl
        have e1 := lcL_all (g := hNm 1) (te := eCall (q_show_fit n) (aCons (eVar 1) aNil)) (e := ⟨[some (.obj "Either" [("fits", .lst (ts.map Tr.fitO))]), none], [], none⟩) (c := none) (all := ts.map Tr.fitO) (s := s) (em := Tr.fitO) (f := fun t => .str (trT t)) trivial ts (fun t ht => ⟨_, rfl, by
          have := part_len (s := tx " | ") (f := trT) ht
          simp [show_ok d n c t s (by omega) (h4 t ht) (by omega)]⟩)
        have e3 := strs_map trT (fun t => .str (trT t)) (fun _ => rfl) ts
        simp only [List.length_map] at p2
        simp only [List.map_map] at p1
        simp [b_show_fit, Tr.fitO, List.lookup, fitL_map, e1, e3, show ts.length ≤ 1000000 from by omega, show (ts.map ((fun x => x.length) ∘ trT)).sum + ts.length * (tx " | ").length ≤ 1000000 from by omega, show (tx "( ").length + (joinT (tx " | ") (ts.map trT)).length ≤ 1000000 from by omega, show (tx "( ").length + (joinT (tx " | ") (ts.map trT)).length + (tx " )").length ≤ 1000000 from by omega]

end Mo
namespace Mo
open Pm
theorem same_ok : ∀ (d n b : Nat) (t : Tr) (s : Sto), d < n → t.Ok d b → q_law_same n [t.fitO, t.dx] s = .ok (.bl true) s
  | d, 0, _, _, _, h, _ => by omega
  | d, n + 1, b, t, s, h, ht => by
    rw [q_law_same_s]
    have sev : ∀ (ts : List Tr) (a1 : Dx) (z : String) (x2 x3 x4 : Option Dx) (C : String), (∀ t ∈ ts, q_law_same n [t.fitO, t.dx] s = .ok (.bl true) s) → lcL (hNm 5) (t_law_same_1 (q_law_same n)) (eVar 5) ⟨[some (.obj C [("fits", .lst (ts.map Tr.fitO))]), some (.tup [.str (tx z), .tup (ts.map Tr.dx)]), x2, x3, x4, none], [], none⟩ none (rng 0 ts.length) (rng 0 ts.length) s = .ok [] s := fun ts a1 z x2 x3 x4 C hP => by
      have e := lcL_filter (g := hNm 5) (tt := t_law_same_1 (q_law_same n)) (te := eVar 5) (e := ⟨[some (.obj C [("fits", .lst (ts.map Tr.fitO))]), some (.tup [.str (tx z), .tup (ts.map Tr.dx)]), x2, x3, x4, none], [], none⟩) (c := none) (all := rng 0 ts.length) (s := s) (em := fun i : Nat => Dx.int (0 + (i : Int))) (f := fun _ => Dx.non) (p := fun _ => false) trivial (List.range ts.length) (fun i hi => by
        have hi : i < ts.length := List.mem_range.mp hi
        have e1 : pyIx (ts.map Tr.fitO) (i : Int) = some ts[i].fitO := by
          unfold pyIx
          rw [if_pos (by omega), Int.toNat_natCast, List.getElem?_map, List.getElem?_eq_getElem hi]; rfl
        have e2 : pyIx (ts.map Tr.dx) (i : Int) = some ts[i].dx := by
          unfold pyIx
          rw [if_pos (by omega), Int.toNat_natCast, List.getElem?_map, List.getElem?_eq_getElem hi]; rfl
        have e3 := hP ts[i] (List.getElem_mem hi)
        exact ⟨_, rfl, by simp [t_law_same_1, List.lookup, e1, e2, e3], fun q => by cases q⟩)
      have e5 : (List.range ts.length).filter (fun _ => false) = [] := by simp
      rw [e5] at e
      exact e
    have lcW : ∀ (z : Dx) (e : En) (s : Sto), True := fun _ _ _ => trivial
    have ne7 : ∀ (a b c d e f g : Bool), neD (.lst [.bl a, .bl b, .bl c, .bl d, .bl e, .bl f, .bl g]) (.lst [.bl a, .bl b, .bl c, .bl d, .bl e, .bl f, .bl g]) s = .ok (.bl false) s := fun a b c d e f g => by
      unfold neD
      simp [res, shp, eqv, eqvL]
    have eqn : ∀ ns : List Tx, eqD (.lst (ns.map Dx.str)) (.lst (ns.map Dx.str)) s = .ok (.bl true) s := fun ns => by
      rw [eqD_strs (a := ns) (b := ns) rfl rfl]; simp
    cases t with
    | any => simp [b_law_same, Tr.fitO, Tr.dx, lcL, e_law_same_1, tx_inj, ne7, eqn]
    | weight i =>
      unfold Tr.Ok at ht
      simp [b_law_same, Tr.fitO, Tr.dx, lcL, e_law_same_1, tx_inj, ne7, eqn, List.lookup]
    | kind ns => simp [b_law_same, Tr.fitO, Tr.dx, lcL, e_law_same_1, tx_inj, ne7, eqn, List.lookup]
    | place ns => simp [b_law_same, Tr.fitO, Tr.dx, lcL, e_law_same_1, tx_inj, ne7, eqn, List.lookup]
    | not t =>
      cases d with
      | zero => unfold Tr.Ok at ht; exact ht.elim
      | succ d =>
        unfold Tr.Ok at ht
        have ih := same_ok d n b t s (by omega) ht
        simp [b_law_same, Tr.fitO, Tr.dx, lcL, e_law_same_1, tx_inj, ne7, eqn, List.lookup, ih]
    | both ts =>
      cases d with
      | zero => unfold Tr.Ok at ht; exact ht.elim
      | succ d =>
        unfold Tr.Ok at ht
        obtain ⟨h1, h2, c, h3, h4⟩ := ht
        have ih := fun x2 x3 x4 => sev ts .non "both" x2 x3 x4 "Both" fun t q => same_ok d n c t s (by omega) (h4 t q)
        simp [b_law_same, Tr.fitO, Tr.dx, fitL_map, dxL_map, lcL, e_law_same_1, tx_inj, ne7, eqn, List.lookup, show (ts.length : Int) ≤ 1152921504606846976 from by omega, ih, rng_len, show ts.length ≤ 1000000 from by omega]
    | either ts =>
      cases d with
      | zero => unfold Tr.Ok at ht; exact ht.elim
      | succ d =>
        unfold Tr.Ok at ht
        obtain ⟨h1, h2, c, h3, h4⟩ := ht
        have ih := fun x2 x3 x4 => sev ts .non "either" x2 x3 x4 "Either" fun t q => same_ok d n c t s (by omega) (h4 t q)
        simp [b_law_same, Tr.fitO, Tr.dx, fitL_map, dxL_map, lcL, e_law_same_1, tx_inj, ne7, eqn, List.lookup, show (ts.length : Int) ≤ 1152921504606846976 from by omega, ih, rng_len, show ts.length ≤ 1000000 from by omega]
/-! ## what is refused -/

end Mo
namespace Mo
open Pm
/-! ## the tree's words -/
theorem gd_name {w : Tx} (h : nameB w = true) : Gd w := by
  obtain ⟨h1, h2, h3⟩ := nameB_len h
  have g := w8_name h
  refine ⟨by have := g.1; omega, g.2, fun i hi _ => ?_⟩
  have hl : ∀ c ∈ letters, 97 ≤ c := by decide
  unfold numW at hi
  split at hi
  · rename_i hc
    obtain ⟨hf, k1, _⟩ := figOk_figs hc.1
    exfalso
    unfold figs at hf
    rw [Bool.and_eq_true] at hf
    obtain ⟨c, hcm⟩ := List.exists_mem_of_ne_nil _ k1
    have q := List.all_eq_true.mp hf.2 c hcm
    have hcw : c ∈ w := by
      unfold figW at hcm
      split at hcm
      · exact List.mem_of_mem_drop hcm
      · exact hcm
    have := hl c (h3 c hcw)
    simp at q
    omega
  · cases hi
theorem gd_num {n : Nat} (h : n < 1000000) : Gd (txI (n : Int)) := by
  have g := w8_num h
  refine ⟨by have := g.1; omega, g.2, fun i hi _ => ?_⟩
  rw [numW_num (by omega)] at hi
  cases hi
  exact ⟨by omega, rfl⟩
theorem wd_gd : ∀ (d b : Nat) (t : Tr), t.Ok d b → ∀ w ∈ wd t, Gd w := by
  have W : ∀ z ∈ wordL, Gd (tx z) := words_gd
  have L : ∀ (sg : Tx), Gd sg → ∀ ts : List Tr, (∀ t ∈ ts, ∀ w ∈ wd t, Gd w) → (∀ w ∈ wdT sg ts, Gd w) ∧ ∀ w ∈ wdL sg ts, Gd w := fun sg hs ts => by
    induction ts with
    | nil => exact fun _ => ⟨fun w hw => (by rw [wdT] at hw; cases hw), fun w hw => (by rw [wdL] at hw; cases hw)⟩
    | cons t ts ih =>
      intro h
      have i1 := (ih fun u hu => h u (List.mem_cons_of_mem _ hu)).1
      have i2 := h t List.mem_cons_self
      refine ⟨fun w hw => ?_, fun w hw => ?_⟩
      · rw [wdT] at hw
        rcases List.mem_cons.mp hw with rfl | hw
        · exact hs
        · exact (List.mem_append.mp hw).elim (i2 w) (i1 w)
      · rw [wdL] at hw
        exact (List.mem_append.mp hw).elim (i2 w) (i1 w)
  intro d
  induction d with
  | zero =>
    intro b t ht w hw
    cases t with
    | any => rw [wd] at hw; rw [List.mem_singleton.mp hw]; exact W "any" (by decide)
    | weight i =>
      unfold Tr.Ok at ht
      obtain ⟨n, rfl⟩ : ∃ n : Nat, i = n := ⟨i.toNat, by omega⟩
      rw [wd] at hw
      rcases List.mem_cons.mp hw with rfl | hw
      · exact W "weight" (by decide)
      · rw [List.mem_singleton.mp hw]; exact gd_num (by omega)
    | kind ns =>
      unfold Tr.Ok at ht
      rw [wd] at hw
      rcases List.mem_cons.mp hw with rfl | hw
      · exact W "kind" (by decide)
      · exact gd_name (ht.1.1 w hw)
    | place ns =>
      unfold Tr.Ok at ht
      rw [wd] at hw
      rcases List.mem_cons.mp hw with rfl | hw
      · exact W "place" (by decide)
      · exact gd_name (ht.1.1 w hw)
    | not t => unfold Tr.Ok at ht; exact ht.elim
    | both ts => unfold Tr.Ok at ht; exact ht.elim
    | either ts => unfold Tr.Ok at ht; exact ht.elim
  | succ d ih =>
    intro b t ht w hw
    cases t with
    | any => rw [wd] at hw; rw [List.mem_singleton.mp hw]; exact W "any" (by decide)
    | weight i =>
      unfold Tr.Ok at ht
      obtain ⟨n, rfl⟩ : ∃ n : Nat, i = n := ⟨i.toNat, by omega⟩
      rw [wd] at hw
      rcases List.mem_cons.mp hw with rfl | hw
      · exact W "weight" (by decide)
      · rw [List.mem_singleton.mp hw]; exact gd_num (by omega)
    | kind ns =>
      unfold Tr.Ok at ht
      rw [wd] at hw
      rcases List.mem_cons.mp hw with rfl | hw
      · exact W "kind" (by decide)
      · exact gd_name (ht.1.1 w hw)
    | place ns =>
      unfold Tr.Ok at ht
      rw [wd] at hw
      rcases List.mem_cons.mp hw with rfl | hw
      · exact W "place" (by decide)
      · exact gd_name (ht.1.1 w hw)
    | not t =>
      unfold Tr.Ok at ht
      rw [wd] at hw
      rcases List.mem_cons.mp hw with rfl | hw
      · exact W "not" (by decide)
      · exact ih b t ht w hw
    | both ts =>
      unfold Tr.Ok at ht
      obtain ⟨_, _, c, _, h4⟩ := ht
      rw [wd] at hw
      rcases List.mem_cons.mp hw with rfl | hw
      · exact W "(" (by decide)
      rcases List.mem_append.mp hw with hw | hw
      · exact (L _ (W "&" (by decide)) ts fun t q => ih c t (h4 t q)).2 w hw
      · rw [List.mem_singleton.mp hw]; exact W ")" (by decide)
    | either ts =>
      unfold Tr.Ok at ht
      obtain ⟨_, _, c, _, h4⟩ := ht
      rw [wd] at hw
      rcases List.mem_cons.mp hw with rfl | hw
      · exact W "(" (by decide)
      rcases List.mem_append.mp hw with hw | hw
      · exact (L _ (W "|" (by decide)) ts fun t q => ih c t (h4 t q)).2 w hw
      · rw [List.mem_singleton.mp hw]; exact W ")" (by decide)
/-! ## the tree drawn has few words -/
def Fw : Nat → Nat
  | 0 => 2
  | d + 1 => 2 * Fw d + 3
theorem fw_pos : ∀ d, 2 ≤ Fw d
  | 0 => Nat.le_refl _
  | d + 1 => by have := fw_pos d; unfold Fw; omega
theorem leaf_words {b : Nat} {t : Tr} (h : t.Ok 0 b) : (wd t).length ≤ b + 1 := by
  cases t with
  | any => unfold Tr.Ok at h; simp [wd]
  | weight i => unfold Tr.Ok at h; simp [wd]; omega
  | kind ns => unfold Tr.Ok at h; simp [wd]; omega
  | place ns => unfold Tr.Ok at h; simp [wd]; omega
  | not t => unfold Tr.Ok at h; exact h.elim
  | both ts => unfold Tr.Ok at h; exact h.elim
  | either ts => unfold Tr.Ok at h; exact h.elim
def TreeW (s0 l : Sto) (d : Nat) (r : R Dx) : Prop := ∃ (t : Tr) (z' : Cl) (l' : Sto), IsSt z' ∧ t.Ok d (most3 2 d) ∧ (wd t).length ≤ Fw d ∧ r = .ok t.dx (s0 ++ z' :: (l ++ l'))
theorem sev_words {sg : Tx} {ts : List Tr} {m : Nat} (hl : ts.length = 2) (h : ∀ t ∈ ts, (wd t).length ≤ m) : (tx "(" :: (wdL sg ts ++ [tx ")"])).length ≤ 2 * m + 3 := by
  have q := wdL_len sg ts (fun e => by rw [e] at hl; cases hl)
  have q2 := sum_le (ts := ts) (f := fun t => (wd t).length + 1) (m := m + 1) fun t ht => by have := h t ht; omega
  rw [hl] at q2
  simp
  omega
theorem tree_words : ∀ (d n : Nat), d < n → d ≤ 2 → ∀ (s0 l : Sto) {z : Cl}, IsSt z → TreeW s0 l d (q_law_tree n [.cell s0.length, .int d, .int 2] (s0 ++ z :: l))
  | d, 0, h, _ => by omega
  | d, n + 1, h, h10 => fun s0 l z hz => by
    rw [q_law_tree_s]
    obtain ⟨v1, z1, i1, a1, b1, e1⟩ := nx s0 l hz 8 (by decide)
    have mul0 : ∀ S : Sto, mulD (.int 2) (.int 0) S = .ok (.int 0) S := fun S => by rw [mulD_ii, if_pos (.inl (by omega)), Int.mul_zero]
    have mul1 : ∀ S : Sto, mulD (.int 2) (.int 1) S = .ok (.int 2) S := fun S => by rw [mulD_ii, if_pos (.inl (by omega)), Int.mul_one]
    have hp := most3_pos (more := 2) (by omega) d
    by_cases c : d = 0 ∨ v1 < 3
    · by_cases c0 : d = 0
      · subst c0
        obtain ⟨t, z2, l2, i2, ht, e2⟩ := leaf_ok s0 l i1 0 (by omega)
        have hw := leaf_words ht
        exact ⟨t, z2, l2, i2, ht.more (by omega), by unfold Fw; omega, by simp [-mulD_ii, b_law_tree, e1, mul0, e2]⟩
      · obtain ⟨t, z2, l2, i2, ht, e2⟩ := leaf_ok s0 l i1 2 (by omega)
        have hw := leaf_words ht
        have hv : v1 < 3 := c.elim (fun h => absurd h c0) id
        obtain ⟨m, rfl⟩ : ∃ m, d = m + 1 := ⟨d - 1, by omega⟩
        have := fw_pos m
        exact ⟨t, z2, l2, i2, (ht.more (by omega)).deep (Nat.zero_le _), by unfold Fw; omega, by simp [-mulD_ii, b_law_tree, e1, hv, show ¬ ((m : Int) + 1 = 0) from by omega, show (0 : Int) < (m : Int) + 1 from by omega, mul1, e2]⟩
    · obtain ⟨c0, c1⟩ := not_or.mp c
      obtain ⟨m, rfl⟩ : ∃ m, d = m + 1 := ⟨d - 1, by omega⟩
      have ih := tree_words m n (by omega) (by omega)
      by_cases c3 : v1 = 3
      · obtain ⟨t, z2, l2, i2, ht, hw, e2⟩ := ih s0 l i1
        refine ⟨.not t, z2, l2, i2, by unfold Tr.Ok; exact ht.more (by have := most3_s 2 m; omega), by simp [wd, Fw]; omega, ?_⟩
        simp [b_law_tree, e1, c3, e2, Tr.dx, show ¬ ((m : Int) + 1 = 0) from by omega, show (m : Int) + 1 - 1 = m from by omega]
      · have q1 : ¬ 2 < (m : Int) + 1 := by omega
        obtain ⟨ys, S4, l1, ⟨z4, l4, i4, rfl⟩, l2, l3⟩ := lcL_inv (g := hNm 5) (tt := uYes) (te := e_law_tree_1 (q_law_tree n)) (e := ⟨[some (.cell s0.length), some (.int ((m : Int) + 1)), some (.int 2), some (.int v1), none, none], [], none⟩)
          (c := none) (all := rng 0 2) (P := fun S => ∃ z l', IsSt z ∧ S = s0 ++ z :: (l ++ l')) (R := fun y => ∃ t : Tr, y = t.dx ∧ (t.Ok m (most3 2 m) ∧ (wd t).length ≤ Fw m)) (fun _ _ => trivial) (rng 0 2) (fun x hx S ⟨z, l', hz, hs⟩ => by
            subst hs
            obtain ⟨t, z2, l2, i2, ht, hw, e2⟩ := ih s0 (l ++ l') hz
            exact ⟨_, t.dx, s0 ++ z2 :: (l ++ l' ++ l2), rfl, rfl, by simp [e_law_tree_1, show (m : Int) + 1 - 1 = m from by omega, e2], ⟨z2, l' ++ l2, i2, by simp⟩, t, rfl, ht, hw⟩) (s0 ++ z1 :: l) ⟨z1, [], i1, by simp⟩
        obtain ⟨ts, rfl, hts⟩ := trees_of l3
        have htl : ts.length = 2 := by simpa [rng_len] using l2
        have hb : ts.length * most3 2 m ≤ most3 2 (m + 1) := by
          rw [most3_s]
          exact Nat.mul_le_mul_right _ (by omega)
        rcases (show v1 % 2 = 0 ∨ v1 % 2 = 1 by omega) with h | h
        · refine ⟨.both ts, z4, l4, i4, by unfold Tr.Ok; exact ⟨by omega, by omega, _, hb, fun t q => (hts t q).1⟩, sev_words htl fun t q => (hts t q).2, ?_⟩
          simp [b_law_tree, e1, c1, c3, show ¬ ((m : Int) + 1 = 0) from by omega, q1, rng_len, l1, h, Tr.dx, dxL_map, htl]
        · refine ⟨.either ts, z4, l4, i4, by unfold Tr.Ok; exact ⟨by omega, by omega, _, hb, fun t q => (hts t q).1⟩, sev_words htl fun t q => (hts t q).2, ?_⟩
          simp [b_law_tree, e1, c1, c3, show ¬ ((m : Int) + 1 = 0) from by omega, q1, rng_len, l1, h, Tr.dx, dxL_map, htl]
/-! ## what is read is what was written -/
theorem one_c {D : Nat} : ∀ ts : List Tr, (∀ t ∈ ts, ∃ b, t.Ok D b) → ∃ c, ∀ t ∈ ts, t.Ok D c
  | [], _ => ⟨0, fun _ h => by cases h⟩
  | t :: ts, h => by
    obtain ⟨b, hb⟩ := h t List.mem_cons_self
    obtain ⟨c, hc⟩ := one_c ts fun u hu => h u (List.mem_cons_of_mem _ hu)
    exact ⟨max b c, fun u hu => (List.mem_cons.mp hu).elim (fun e => e ▸ hb.more (Nat.le_max_left ..)) (fun q => (hc u q).more (Nat.le_max_right ..))⟩
def Inv (D : Nat) (P : List Tx → Option (Tr × List Tx)) : Prop := ∀ r t r', (∀ w ∈ r, Gd w) → r.length ≤ 20 → P r = some (t, r') → r = wd t ++ r' ∧ ∃ b, t.Ok D b
theorem pLoop_inv {D : Nat} {P : List Tx → Option (Tr × List Tx)} (hP : Inv D P) {sg : Tx} : ∀ (f : Nat) (acc : List Tr) (r : List Tx) (ts : List Tr) (r' : List Tx), (∀ w ∈ r, Gd w) → r.length ≤ 20 → pLoop P sg f acc r = some (ts, r') →
    ∃ us : List Tr, us ≠ [] ∧ ts = acc ++ us ∧ r = wdL sg us ++ tx ")" :: r' ∧ ∀ u ∈ us, ∃ b, u.Ok D b
  | 0, _, _, _, _, _, _, h => by cases h
  | f + 1, acc, r, ts, r', hg, hl, h => by
    unfold pLoop at h
    cases hp : P r with
    | none => rw [hp] at h; cases h
    | some tr =>
      obtain ⟨t, r1⟩ := tr
      rw [hp] at h
      obtain ⟨e1, b1, k1⟩ := hP r t r1 hg hl hp
      cases r1 with
      | nil => cases h
      | cons b r2 =>
        simp only at h
        split at h
        · rename_i hb; subst hb
          have hg2 : ∀ w ∈ r2, Gd w := fun w hw => hg w (by rw [e1]; exact List.mem_append_right _ (List.mem_cons_of_mem _ hw))
          have hl2 : r2.length ≤ 20 := by rw [e1] at hl; simp at hl; omega
          obtain ⟨us, h1, h2, h3, h4⟩ := pLoop_inv hP f _ _ _ _ hg2 hl2 h
          refine ⟨t :: us, by simp, by rw [h2]; simp, ?_, fun u hu => (List.mem_cons.mp hu).elim (fun e => e ▸ ⟨b1, k1⟩) (h4 u)⟩
          rw [e1, h3]
          cases us with
          | nil => exact absurd rfl h1
          | cons u us => simp [wdL, wdT]
        · split at h
          · rename_i hb
            cases h
            exact ⟨[t], by simp, rfl, by rw [e1, hb]; simp [wdL, wdT], fun u hu => by rw [List.mem_singleton.mp hu]; exact ⟨b1, k1⟩⟩
          · cases h
theorem sev_few (sg : Tx) (ts : List Tr) : 2 * ts.length ≤ (wdL sg ts).length + 1 := by
  cases ts with
  | nil => simp
  | cons t ts =>
    rw [wdL_len sg (t :: ts) (by simp)]
    generalize t :: ts = us
    induction us with
    | nil => simp
    | cons u us ih => have := wd_pos u; simp at ih ⊢; omega
theorem pSev_inv {D : Nat} {P : List Tx → Option (Tr × List Tx)} (hP : Inv D P) (r : List Tx) (t : Tr) (r' : List Tx) (hg : ∀ w ∈ r, Gd w) (hl : r.length ≤ 20) (h : pSev P r = some (t, r')) : tx "(" :: r = wd t ++ r' ∧ ∃ b, t.Ok (D + 1) b := by
  unfold pSev at h
  cases hp : P r with
  | none => rw [hp] at h; cases h
  | some tr =>
    obtain ⟨t1, r1⟩ := tr
    rw [hp] at h
    obtain ⟨e1, b1, k1⟩ := hP r t1 r1 hg hl hp
    cases r1 with
    | nil => cases h
    | cons b r2 =>
      simp only at h
      split at h
      · rename_i hb
        cases hq : pLoop P b (r2.length + 1) [t1] r2 with
        | none => rw [hq] at h; cases h
        | some q =>
          obtain ⟨ts, r3⟩ := q
          rw [hq] at h
          cases h
          have hg2 : ∀ w ∈ r2, Gd w := fun w hw => hg w (by rw [e1]; exact List.mem_append_right _ (List.mem_cons_of_mem _ hw))
          have hl2 : r2.length ≤ 20 := by rw [e1] at hl; simp at hl; omega
          obtain ⟨us, h1, h2, h3, h4⟩ := pLoop_inv hP _ _ _ _ _ hg2 hl2 hq
          have e2 : r = wdL b ts ++ tx ")" :: r' := by
            rw [e1, h3, h2]
            cases us with
            | nil => exact absurd rfl h1
            | cons u us => simp [wdL, wdT]
          have h5 : ∀ u ∈ ts, ∃ b, u.Ok D b := fun u hu => by
            rw [h2] at hu
            rcases List.mem_append.mp hu with q | q
            · rw [List.mem_singleton.mp q]; exact ⟨b1, k1⟩
            · exact h4 u q
          obtain ⟨c, hc⟩ := one_c ts h5
          have n2 : 2 ≤ ts.length := by
            have := List.length_pos_iff.mpr h1
            rw [h2]; simp; omega
          have n10 : ts.length ≤ 10 := by
            have := sev_few b ts
            rw [e2] at hl
            simp at hl
            omega
          rcases hb with rfl | rfl
          · refine ⟨by rw [e2]; simp [wd], ts.length * c, ?_⟩
            rw [if_pos rfl]
            unfold Tr.Ok
            exact ⟨n2, n10, c, Nat.le_refl _, hc⟩
          · refine ⟨by rw [e2, if_neg (by decide)]; simp [wd], ts.length * c, ?_⟩
            rw [if_neg (by decide)]
            unfold Tr.Ok
            exact ⟨n2, n10, c, Nat.le_refl _, hc⟩
      · cases h
theorem names_inv {f : List Tx → Tr} {r : List Tx} {t : Tr} {r' : List Tx} (h : pNames f r = some (t, r')) : ∃ ns, t = f ns ∧ NmL ns ∧ r = ns ++ r' := by
  unfold pNames at h
  split at h
  · rename_i hc
    cases h
    refine ⟨r.takeWhile nameB, rfl, ⟨fun x hx => List.all_eq_true.mp (List.all_takeWhile (p := nameB) (l := r)) x hx, hc.2, hc.1⟩, ?_⟩
    have q : (r.takeWhile nameB ++ r.dropWhile nameB).drop (r.takeWhile nameB).length = r.dropWhile nameB := List.drop_left ..
    rw [List.takeWhile_append_dropWhile] at q
    rw [q, List.takeWhile_append_dropWhile]
  · cases h
theorem pFit_inv : ∀ D, Inv D (pFit D)
  | 0, r, t, r', _, _, h => by cases r <;> cases h
  | d + 1, [], t, r', _, _, h => by cases h
  | d + 1, w :: r, t, r', hg, hl, h => by
    have ih := pFit_inv d
    have hg2 : ∀ w ∈ r, Gd w := fun x hx => hg x (List.mem_cons_of_mem _ hx)
    have hl2 : r.length ≤ 20 := by simp at hl; omega
    unfold pFit at h
    split at h
    · rename_i hw; cases h; subst hw; exact ⟨by simp [wd], 1, by unfold Tr.Ok; omega⟩
    split at h
    · rename_i hw; subst hw
      obtain ⟨ns, rfl, hn, rfl⟩ := names_inv h
      exact ⟨by simp [wd], ns.length, by unfold Tr.Ok; exact ⟨hn, Nat.le_refl _⟩⟩
    split at h
    · rename_i hw; subst hw
      obtain ⟨ns, rfl, hn, rfl⟩ := names_inv h
      exact ⟨by simp [wd], ns.length, by unfold Tr.Ok; exact ⟨hn, Nat.le_refl _⟩⟩
    split at h
    · rename_i hw; subst hw
      cases r with
      | nil => cases h
      | cons x r =>
        simp only [pWeight] at h
        cases hn : numW x with
        | none => rw [hn] at h; cases h
        | some i =>
          rw [hn] at h
          simp only at h
          split at h
          · rename_i hi
            cases h
            obtain ⟨h1, h2⟩ := (hg2 x List.mem_cons_self).2.2 i hn hi
            exact ⟨by simp [wd, ← h2], 1, by unfold Tr.Ok; exact ⟨⟨hi, h1⟩, Nat.le_refl _⟩⟩
          · cases h
    split at h
    · rename_i hw; subst hw
      cases hp : pFit d r with
      | none => rw [hp] at h; cases h
      | some q =>
        obtain ⟨t1, r1⟩ := q
        rw [hp] at h
        cases h
        obtain ⟨e1, b1, k1⟩ := ih _ _ _ hg2 hl2 hp
        exact ⟨by rw [e1]; simp [wd], b1, by unfold Tr.Ok; exact k1⟩
    split at h
    · rename_i hw; subst hw
      exact pSev_inv ih _ _ _ hg2 hl2 h
    · cases h
/-! ## the law -/
theorem joins_len (s : Tx) (ws : List Tx) : (joinT s ws).length ≤ (ws.map fun x : Tx => x.length).sum + ws.length * s.length := by
  cases ws with
  | nil => simp [joinT]
  | cons w ws =>
    have q : ∀ ws : List Tx, ((ws.map fun y => s ++ y).flatten).length = (ws.map fun x : Tx => x.length).sum + ws.length * s.length := fun ws => by
      induction ws with
      | nil => simp
      | cons w ws ih => simp [Nat.add_mul] at ih ⊢; omega
    unfold joinT
    rw [List.length_append, q ws]
    simp [Nat.add_mul]
    omega
theorem sum9 (ws : List Tx) (h : ∀ w ∈ ws, w.length ≤ 9) : (ws.map fun x : Tx => x.length).sum ≤ 9 * ws.length := by
  induction ws with
  | nil => simp
  | cons w ws ih =>
    have := h w List.mem_cons_self
    have := ih fun x hx => h x (List.mem_cons_of_mem _ hx)
    simp at this ⊢; omega
def due (ws : List Tx) : Option Tr := match pFit 40 ws with
  | some (t, []) => some t
  | _ => none
theorem due_fit {ws : List Tx} (h : ∀ w ∈ ws, 32 ∉ w) : fitOf (joinT (tx " ") ws) = due ws := by
  by_cases hne : ws = []
  · subst hne
    exact fitOf_bad (w := []) (by decide) not_ok_nil
  · unfold fitOf due
    rw [words_join ws h hne]
    all_goals
      cases pFit 40 ws with
      | none => rfl
      | some p =>
        obtain ⟨t, r⟩ := p
        cases r <;> rfl
def dueD : Option Tr → Dx
  | some t => t.dx
  | none => .non
def LawP (r : R Dx) : Prop := ∃ s, r = .ok (.bl true) s
def TwI (a c st d du at_ tx_ : Dx) (e : En) (_ : Sto) : Prop := ∃ (x7 x8 x9 : Option Dx), e = ⟨[some a, some c, some st, some d, some du, some at_, some tx_, x7, x8, x9], [], none⟩
def BodyP (a : Dx) (r : S) : Prop := ∃ (ys : List (Option Dx)) (S : Sto), ys.length = 9 ∧ r = .nx ⟨some a :: ys, [], none⟩ S
theorem body_ok (a : Dx) (c : Int) (s : Sto) (xs : List (Option Dx)) (hx : xs.length = 8) : BodyP a (l_law_2 ⟨some a :: some (.int c) :: xs, [], none⟩ s) := by
  obtain ⟨x2, x3, x4, x5, x6, x7, x8, x9, rfl⟩ : ∃ x2 x3 x4 x5 x6 x7 x8 x9, xs = [x2, x3, x4, x5, x6, x7, x8, x9] := by
    match xs, hx with
    | [x2, x3, x4, x5, x6, x7, x8, x9], _ => exact ⟨_, _, _, _, _, _, _, _, rfl⟩
  obtain ⟨z0, i0, f0⟩ := begin_ok s c
  obtain ⟨t, z1, l1, i1, ht, hw, f1⟩ := tree_words 2 50 (by omega) (by omega) s [] i0
  have hw : (wd t).length ≤ 17 := hw
  have f1 : m_law_tree [.cell s.length, .int 2, .int 2] (s ++ [z0]) = .ok t.dx (s ++ z1 :: l1) := f1
  have tl := trT_len ht
  have f2 : m_law_text [t.dx] (s ++ z1 :: l1) = .ok (.str (trT t)) (s ++ z1 :: l1) := law_text_ok 2 50 _ t _ (by omega) ht (by omega)
  have sw : splT (tx " ") 0 [] (trT t) = wd t := words_join _ (fun w h => (wd_w8 _ _ t ht w h).2) (wd_ne t)
  obtain ⟨d, ws, z2, l2, i2, hd, hl, hg, f3⟩ := spoilt_ok s l1 i1 (WL.lst s l1 (wd t)) hw (wd_gd _ _ t ht)
  have hd2 := hd z2
  have g0 := read19 (d := d) (ws := ws) (fun w h => by have := (hg w h).1; omega) (by omega) 40 90 (by omega) (s ++ z2 :: (l1 ++ l2)) 0 hd2 (by omega) (by rw [List.drop_zero]; have := cnt_len ws; omega)
  rw [List.drop_zero] at g0
  have g : LR d ws (s ++ z2 :: (l1 ++ l2)) (q_law_read 90 [d, .int 0] (s ++ z2 :: (l1 ++ l2))) (pFit 40 ws) := g0
  have mr : m_law_read = q_law_read 90 := rfl
  have t1 : ((tx " ").all fun c => decide (c < 256)) = true := by decide
  have t2 : ∀ x, x ∈ tx " " → x < 256 := by decide
  have q1 : (tx " ").length = 1 := rfl
  obtain ⟨zt, hzt⟩ : ∃ zt, zt = joinT (tx " ") ws := ⟨_, rfl⟩
  have h9 := sum9 ws fun w h => (hg w h).1
  have hj := joins_len (tx " ") ws
  have hj2 : ws.length * (tx " ").length = ws.length := by rw [q1, Nat.mul_one]
  have hzl : zt.length ≤ 1000 := by rw [hzt]; omega
  have hwo : (wordsOf zt).length ≤ 900 := by
    by_cases hne : ws = []
    · rw [hzt, hne]; decide
    · rw [hzt, words_join ws (fun w h => (hg w h).2.1) hne]; omega
  have hf : fitOf zt = due ws := by rw [hzt]; exact due_fit fun w h => (hg w h).2.1
  have two : ∀ (at_ : Dx) (x7 x8 x9 : Option Dx) (S : Sto), BodyP a (forL (hNm 7) l_law_1 none (rng 0 2) (rng 0 2) ⟨[some a, some (.int c), some (.cell s.length), some d, some (dueD (due ws)), some at_, some (.str zt), x7, x8, x9], [], none⟩ S) := fun at_ x7 x8 x9 S => by
    refine forL_ok (c := none) (P := TwI a (.int c) (.cell s.length) d (dueD (due ws)) at_ (.str zt)) (Z := BodyP a) (fun _ _ _ => trivial) ?_ _ ?_ _ _ ⟨_, _, _, rfl⟩
    · rintro e S ⟨x7, x8, x9, rfl⟩
      exact ⟨_, S, rfl, rfl⟩
    · rintro x hx e S ⟨x7, x8, x9, rfl⟩
      refine ⟨_, rfl, ?_⟩
      obtain ⟨l3, f4⟩ := told_ok zt S (by omega) hwo
      rw [hf] at f4
      cases hdu : due ws with
      | none =>
        rw [hdu] at f4
        simp [l_law_1, f4, dueD]
        exact ⟨_, _, _, rfl⟩
      | some u =>
        rw [hdu] at f4
        have hp : pFit 40 ws = some (u, []) := by
          unfold due at hdu
          split at hdu
          · rename_i heq; cases hdu; exact heq
          · cases hdu
        obtain ⟨e1, b, k1⟩ := pFit_inv 40 ws u [] hg hl hp
        rw [List.append_nil] at e1
        have e2 : trT u = zt := by rw [hzt, e1]; rfl
        have f5 : m_law_same [u.fitO, u.dx] (S ++ l3) = .ok (.bl true) (S ++ l3) := same_ok 40 50 b u _ (by omega) k1
        have f6 : m_show_fit [u.fitO] (S ++ l3) = .ok (.str zt) (S ++ l3) := by
          have := show_ok 40 50 b u (S ++ l3) (by omega) k1 (by rw [e2]; omega)
          rw [e2] at this
          exact this
        have nd : ∀ S, notND u.dx .non S = .ok (.bl true) S := fun S => by cases u <;> simp [Tr.dx]
        have id : ∀ S, isND u.dx .non S = .ok (.bl false) S := fun S => by cases u <;> simp [Tr.dx]
        simp [l_law_1, f4, dueD, nd, id, f5, f6]
        exact ⟨_, _, _, rfl⟩
  have hn : ∀ l, lenD [d] (s ++ z2 :: (l1 ++ (l2 ++ l))) = .ok (.int ws.length) (s ++ z2 :: (l1 ++ (l2 ++ l))) := fun l => by
    have := hd.app l z2
    rw [List.append_assoc] at this
    rw [lenD_asM this]; simp
  have hq : ∀ l, asQ (s ++ z2 :: (l1 ++ (l2 ++ l))) d = some (ws.map Dx.str) := fun l => by
    have := hd.app l z2
    rw [List.append_assoc] at this
    exact asQ_asM this
  have hsum : (ws.map fun x : Tx => x.length).sum + ws.length * (tx " ").length ≤ 1000000 := by omega
  unfold l_law_2
  simp only [sSeq_at]
  cases hp : pFit 40 ws with
  | none =>
    rw [hp] at g
    obtain ⟨l3, i, e⟩ := g
    have hdu : due ws = none := by unfold due; rw [hp]
    rw [hdu] at two
    simp only [List.append_assoc, List.cons_append] at e
    by_cases hc : i < ws.length
    · simp [f0, f1, f2, sw, if_pos t2, t2, show tx " " ≠ [] from by decide, show (trT t).length ≤ 1000000 from by omega, f3, mr, e, hn, hc, hq, strs_strs, hsum, ← hzt]
      exact two _ _ _ _ _
    · simp [f0, f1, f2, sw, if_pos t2, t2, show tx " " ≠ [] from by decide, show (trT t).length ≤ 1000000 from by omega, f3, mr, e, hn, hc, hq, strs_strs, hsum, ← hzt]
      exact two _ _ _ _ _
  | some p =>
    obtain ⟨u, r⟩ := p
    rw [hp] at g
    obtain ⟨l3, k, e, d3, hk⟩ := g
    simp only [List.append_assoc, List.cons_append] at e
    cases r with
    | nil =>
      have hdu : due ws = some u := by unfold due; rw [hp]
      rw [hdu] at two
      have hk2 : k = ws.length := by
        have := List.drop_eq_nil_iff.mp d3
        omega
      have hc : ¬ (k : Int) < ws.length := by omega
      simp [f0, f1, f2, sw, if_pos t2, t2, show tx " " ≠ [] from by decide, show (trT t).length ≤ 1000000 from by omega, f3, mr, e, hn, hc, hq, strs_strs, hsum, ← hzt, hk2]
      exact two _ _ _ _ _
    | cons y r =>
      have hdu : due ws = none := by unfold due; rw [hp]
      rw [hdu] at two
      have hc : (k : Int) < ws.length := by
        have := congrArg List.length d3
        simp at this
        omega
      have hc2 : k < ws.length := by omega
      simp [f0, f1, f2, sw, if_pos t2, t2, show tx " " ≠ [] from by decide, show (trT t).length ≤ 1000000 from by omega, f3, mr, e, hn, hc, hc2, hq, strs_strs, hsum, ← hzt]
      exact two _ _ _ _ _
def FinI (a : Dx) (e : En) (s : Sto) : Prop := ∃ (x1 : Option Dx) (xs : List (Option Dx)), xs.length = 8 ∧ e = ⟨some a :: x1 :: xs, [], none⟩
theorem plain (ns : List Int) (h : ns.length ≤ 63) : ∃ s, m_law [.fro (ns.map Dx.int)] [] = .ok (.bl true) s := by
  show LawP _
  refine mk_R rfl ?_
  have hc : (cut (ns.map Dx.int) none (some 12)).length ≤ 63 := by rw [cut_to _ _ (by decide)]; simp; omega
  simp [b_law, show 1 + (cut (ns.map Dx.int) none (some 12)).length ≤ 1000000 from by omega]
  refine forL_ok (c := none) (P := FinI (.fro (ns.map Dx.int))) (Z := fun r => LawP (toR (S.sq r _))) (fun _ _ _ => trivial) ?_ _ ?_ _ _ ⟨none, _, rfl, rfl⟩
  · rintro e s ⟨x1, xs, _, rfl⟩
    exact ⟨s, by simp [toR]⟩
  · rintro x hx e s ⟨x1, xs, hxs, rfl⟩
    obtain ⟨c, rfl⟩ : ∃ c, x = .int c := by
      rcases List.mem_cons.mp hx with rfl | hx
      · exact ⟨0, rfl⟩
      · rw [cut_to _ _ (by decide)] at hx
        obtain ⟨c, _, hc⟩ := List.mem_map.mp (List.mem_of_mem_take hx)
        exact ⟨c, hc.symm⟩
    obtain ⟨ys, S, hy, e⟩ := body_ok (.fro (ns.map Dx.int)) c s xs hxs
    refine ⟨⟨some (.fro (ns.map Dx.int)) :: some (.int c) :: xs, [], none⟩, rfl, ?_⟩
    rw [e]
    match ys, hy with
    | y :: ys, hy => exact ⟨y, ys, by simpa using hy, rfl⟩

end Mo
theorem Pr.plain (ns : List Int) (h : ns.length ≤ 63) : ∃ s, Mo.m_law [.fro (ns.map Pm.Dx.int)] [] = .ok (.bl true) s := Mo.plain ns h
namespace Pr
open PySem PySem.Spec PyProof.Rows L2 He Vs Pm Ps Mo
def top (i : Nat) : Stmt := PySem.Challenge.pw_bellsaway_k19_texts_of_fits_spoilt.main.body.getD i (.Pass ⟨0, 0, 0, 0⟩)
abbrev s_law_begin : Stmt := top 42
def d_law_begin : He.DefD := ⟨("_law_begin", none), "_law_begin", "_law_begin", defArgs s_law_begin, defBody s_law_begin, defScope s_law_begin, [], []⟩
abbrev s_law_next : Stmt := top 43
def d_law_next : He.DefD := ⟨("_law_next", none), "_law_next", "_law_next", defArgs s_law_next, defBody s_law_next, defScope s_law_next, [], []⟩
abbrev s_law_word : Stmt := top 49
def d_law_word : He.DefD := ⟨("_law_word", none), "_law_word", "_law_word", defArgs s_law_word, defBody s_law_word, defScope s_law_word, [], []⟩
abbrev s_law_changed : Stmt := top 50
def d_law_changed : He.DefD := ⟨("_law_changed", none), "_law_changed", "_law_changed", defArgs s_law_changed, defBody s_law_changed, defScope s_law_changed, [], []⟩
abbrev s_law_spoilt : Stmt := top 51
def d_law_spoilt : He.DefD := ⟨("_law_spoilt", none), "_law_spoilt", "_law_spoilt", defArgs s_law_spoilt, defBody s_law_spoilt, defScope s_law_spoilt, [], []⟩
abbrev s_law_is_name : Stmt := top 52
def d_law_is_name : He.DefD := ⟨("_law_is_name", none), "_law_is_name", "_law_is_name", defArgs s_law_is_name, defBody s_law_is_name, defScope s_law_is_name, [], []⟩
abbrev s_law_names : Stmt := top 54
def d_law_names : He.DefD := ⟨("_law_names", none), "_law_names", "_law_names", defArgs s_law_names, defBody s_law_names, defScope s_law_names, [], []⟩
abbrev s_law_is_weight : Stmt := top 53
def d_law_is_weight : He.DefD := ⟨("_law_is_weight", none), "_law_is_weight", "_law_is_weight", defArgs s_law_is_weight, defBody s_law_is_weight, defScope s_law_is_weight, [], []⟩
abbrev s_law_read : Stmt := top 56
def d_law_read : He.DefD := ⟨("_law_read", none), "_law_read", "_law_read", defArgs s_law_read, defBody s_law_read, defScope s_law_read, [], []⟩
abbrev s_law_several : Stmt := top 55
def d_law_several : He.DefD := ⟨("_law_several", none), "_law_several", "_law_several", defArgs s_law_several, defBody s_law_several, defScope s_law_several, [], []⟩
abbrev s_NoText_init : Stmt := inClass (top 6) 0
def d_NoText_init : He.DefD := ⟨("NoText", some "__init__"), "__init__", "NoText.__init__", defArgs s_NoText_init, defBody s_NoText_init, defScope s_NoText_init, [(.int 0)], []⟩
abbrev s_text_unless : Stmt := top 29
def d_text_unless : He.DefD := ⟨("text_unless", none), "text_unless", "text_unless", defArgs s_text_unless, defBody s_text_unless, defScope s_text_unless, [], []⟩
abbrev s_Words_init : Stmt := inClass (top 31) 0
def d_Words_init : He.DefD := ⟨("Words", some "__init__"), "__init__", "Words.__init__", defArgs s_Words_init, defBody s_Words_init, defScope s_Words_init, [], []⟩
abbrev s_Words_is_over : Stmt := inClass (top 31) 1
def d_Words_is_over : He.DefD := ⟨("Words", some "is_over"), "is_over", "Words.is_over", defArgs s_Words_is_over, defBody s_Words_is_over, defScope s_Words_is_over, [], []⟩
abbrev s_Words_end : Stmt := inClass (top 31) 10
def d_Words_end : He.DefD := ⟨("Words", some "end"), "end", "Words.end", defArgs s_Words_end, defBody s_Words_end, defScope s_Words_end, [], []⟩
abbrev s_Several_init : Stmt := inClass (top 23) 0
def d_Several_init : He.DefD := ⟨("Several", some "__init__"), "__init__", "Several.__init__", defArgs s_Several_init, defBody s_Several_init, defScope s_Several_init, [], []⟩
abbrev s_Words_next_word : Stmt := inClass (top 31) 3
def d_Words_next_word : He.DefD := ⟨("Words", some "next_word"), "next_word", "Words.next_word", defArgs s_Words_next_word, defBody s_Words_next_word, defScope s_Words_next_word, [], []⟩
abbrev s_Words_one_of : Stmt := inClass (top 31) 5
def d_Words_one_of : He.DefD := ⟨("Words", some "one_of"), "one_of", "Words.one_of", defArgs s_Words_one_of, defBody s_Words_one_of, defScope s_Words_one_of, [], []⟩
abbrev s_is_name : Stmt := top 12
def d_is_name : He.DefD := ⟨("is_name", none), "is_name", "is_name", defArgs s_is_name, defBody s_is_name, defScope s_is_name, [], []⟩
abbrev s_Words_front : Stmt := inClass (top 31) 2
def d_Words_front : He.DefD := ⟨("Words", some "front"), "front", "Words.front", defArgs s_Words_front, defBody s_Words_front, defScope s_Words_front, [], []⟩
abbrev s_names_in : Stmt := top 35
def d_names_in : He.DefD := ⟨("names_in", none), "names_in", "names_in", defArgs s_names_in, defBody s_names_in, defScope s_names_in, [], []⟩
abbrev s_are_names : Stmt := top 13
def d_are_names : He.DefD := ⟨("are_names", none), "are_names", "are_names", defArgs s_are_names, defBody s_are_names, defScope s_are_names, [], []⟩
abbrev s_Named_init : Stmt := inClass (top 18) 0
def d_Named_init : He.DefD := ⟨("Named", some "__init__"), "__init__", "Named.__init__", defArgs s_Named_init, defBody s_Named_init, defScope s_Named_init, [], []⟩
abbrev s_is_whole : Stmt := top 8
def d_is_whole : He.DefD := ⟨("is_whole", none), "is_whole", "is_whole", defArgs s_is_whole, defBody s_is_whole, defScope s_is_whole, [], []⟩
abbrev s_is_weight : Stmt := top 14
def d_is_weight : He.DefD := ⟨("is_weight", none), "is_weight", "is_weight", defArgs s_is_weight, defBody s_is_weight, defScope s_is_weight, [], []⟩
abbrev s_Least_init : Stmt := inClass (top 21) 0
def d_Least_init : He.DefD := ⟨("Least", some "__init__"), "__init__", "Least.__init__", defArgs s_Least_init, defBody s_Least_init, defScope s_Least_init, [], []⟩
abbrev s_Not_init : Stmt := inClass (top 22) 0
def d_Not_init : He.DefD := ⟨("Not", some "__init__"), "__init__", "Not.__init__", defArgs s_Not_init, defBody s_Not_init, defScope s_Not_init, [], []⟩
abbrev s_number_of : Stmt := top 30
def d_number_of : He.DefD := ⟨("number_of", none), "number_of", "number_of", defArgs s_number_of, defBody s_number_of, defScope s_number_of, [], []⟩
abbrev s_Words_next_number : Stmt := inClass (top 31) 6
def d_Words_next_number : He.DefD := ⟨("Words", some "next_number"), "next_number", "Words.next_number", defArgs s_Words_next_number, defBody s_Words_next_number, defScope s_Words_next_number, [], []⟩
abbrev s_fit_in : Stmt := top 36
def d_fit_in : He.DefD := ⟨("fit_in", none), "fit_in", "fit_in", defArgs s_fit_in, defBody s_fit_in, defScope s_fit_in, [(.int 0)], []⟩
abbrev s_several_in : Stmt := top 37
def d_several_in : He.DefD := ⟨("several_in", none), "several_in", "several_in", defArgs s_several_in, defBody s_several_in, defScope s_several_in, [], []⟩
abbrev s_read_by : Stmt := top 38
def d_read_by : He.DefD := ⟨("read_by", none), "read_by", "read_by", defArgs s_read_by, defBody s_read_by, defScope s_read_by, [], []⟩
abbrev s_read_fit : Stmt := top 39
def d_read_fit : He.DefD := ⟨("read_fit", none), "read_fit", "read_fit", defArgs s_read_fit, defBody s_read_fit, defScope s_read_fit, [], []⟩
abbrev s_law_told : Stmt := top 57
def d_law_told : He.DefD := ⟨("_law_told", none), "_law_told", "_law_told", defArgs s_law_told, defBody s_law_told, defScope s_law_told, [], []⟩
abbrev s_law_text : Stmt := top 47
def d_law_text : He.DefD := ⟨("_law_text", none), "_law_text", "_law_text", defArgs s_law_text, defBody s_law_text, defScope s_law_text, [], []⟩
abbrev s_law_name : Stmt := top 44
def d_law_name : He.DefD := ⟨("_law_name", none), "_law_name", "_law_name", defArgs s_law_name, defBody s_law_name, defScope s_law_name, [], []⟩
abbrev s_law_leaf : Stmt := top 45
def d_law_leaf : He.DefD := ⟨("_law_leaf", none), "_law_leaf", "_law_leaf", defArgs s_law_leaf, defBody s_law_leaf, defScope s_law_leaf, [], []⟩
abbrev s_law_tree : Stmt := top 46
def d_law_tree : He.DefD := ⟨("_law_tree", none), "_law_tree", "_law_tree", defArgs s_law_tree, defBody s_law_tree, defScope s_law_tree, [], []⟩
abbrev s_show_fit : Stmt := top 34
def d_show_fit : He.DefD := ⟨("show_fit", none), "show_fit", "show_fit", defArgs s_show_fit, defBody s_show_fit, defScope s_show_fit, [], []⟩
abbrev s_law_same : Stmt := top 48
def d_law_same : He.DefD := ⟨("_law_same", none), "_law_same", "_law_same", defArgs s_law_same, defBody s_law_same, defScope s_law_same, [], []⟩
abbrev s_law : Stmt := top 58
def d_law : He.DefD := ⟨("law", none), "law", "law", defArgs s_law, defBody s_law, defScope s_law, [], []⟩
def fn : List He.DefD := [d_law_begin, d_law_next, d_law_word, d_law_changed, d_law_spoilt, d_law_is_name, d_law_names, d_law_is_weight, d_law_read, d_law_several, d_NoText_init, d_text_unless, d_Words_init, d_Words_is_over, d_Words_end, d_Several_init, d_Words_next_word, d_Words_one_of, d_is_name, d_Words_front, d_names_in, d_are_names, d_Named_init, d_is_whole, d_is_weight, d_Least_init, d_Not_init, d_number_of, d_Words_next_number, d_fit_in, d_several_in, d_read_by, d_read_fit, d_law_told, d_law_text, d_law_name, d_law_leaf, d_law_tree, d_show_fit, d_law_same, d_law]
def fa : List He.Fa := [.glo "_law_next", .glo "_law_word", .free "len", .free "list", .glo "_law_changed", .free "range", .glo "_law_is_name", .glo "_law_is_weight", .glo "_law_names", .glo "_law_read", .glo "_law_several", .free "int", .free "set", .free "tuple", .glo "BellError", .glo "NoText", .glo "text_unless", .free "isinstance", .free "str", .meth "Words" "is_over", .glo "Fit", .glo "NoFit", .free "all", .exc "NoFit", .meth "Words" "next_word", .int "MOST_LETTERS" 8, .str "LETTERS" "abcdefghijklmnopqrstuvwxyz", .glo "is_name", .meth "Words" "front", .glo "are_names", .free "bool", .glo "is_whole", .glo "is_weight", .int "MOST_FIGURES" 60, .str "FIGURES" "0123456789", .glo "number_of", .glo "Any", .glo "Kind", .glo "Least", .glo "Not", .glo "Place", .glo "fit_in", .glo "names_in", .glo "several_in", .int "DEEPEST" 40, .mkr "Least", .mkr "Not", .meth "Words" "next_number", .glo "Both", .glo "Either", .meth "Words" "one_of", .glo "NoClock", .glo "NoWish", .glo "Words", .mkr "Words", .meth "Words" "end", .glo "read_by", .glo "read_fit", .glo "_law_text", .glo "_law_name", .glo "_law_leaf", .glo "_law_tree", .glo "show_fit", .glo "_law_same", .glo "_law_begin", .glo "_law_spoilt", .glo "_law_told", .glo "law"]
def xs : List (PySem.W.Frag → Bool) := [hcB, xcB, (fun K => beB K (ga K "BellError")), (fun K => mk0B K (ga K "Any")), (fun K => mkB K (ga K "Kind") (ma K (ga K "Named") "__init__")), (fun K => mkB K (ga K "Place") (ma K (ga K "Named") "__init__")), (fun K => mkB K (ga K "Both") (ma K (ga K "Several") "__init__")), (fun K => mkB K (ga K "Either") (ma K (ga K "Several") "__init__"))]
/-! ### what the head tells -/
abbrev AlM : Type := AlD × Bool
/-! The collector: addresses and bits are forced (frNat), for the kernel reckons quickly only with numbers in which no variable stands (asD's eraseDups took 4 GB, a lazy bit set as much once there were many objects). -/
def refsK (g : Addr → Option Obj) (a : Addr) : List Addr := match g a with
  | some o => refsD o
  | none => []
/-- those that are new, told as numbers that the kernel reckons with (m: the bits of the known ones) -/
def levK {β : Type} : List Addr → Nat → List Addr → (Nat → List Addr → β) → β
  | [], m, acc, k => HandSHeadRun.frNat m fun m => k m acc
  | a :: r, m, acc, k => HandSHeadRun.frNat a fun a => HandSHeadRun.frNat m fun m => match Nat.beq (Nat.land (Nat.shiftRight m a) 1) 1 with
    | true => levK r m acc k
    | false => levK r (Nat.lor m (Nat.shiftLeft 1 a)) (a :: acc) k
def rowK {β : Type} (g : Addr → Option Obj) : List Addr → Nat → List Addr → (Nat → List Addr → β) → β
  | [], m, acc, k => k m acc
  | a :: r, m, acc, k => levK (refsK g a) m acc fun m acc => rowK g r m acc k
/-- the objects, the nearest first -/
def takK {β : Type} (g : Addr → Option Obj) : List Addr → PySem.W.Frag → (PySem.W.Frag → β) → β
  | [], K, k => k K
  | a :: r, K, k => match g a with
    | some o => takK g r ((a, o) :: K) k
    | none => takK g r K k
def asK {β : Type} (g : Addr → Option Obj) : Nat → List Addr → Nat → List Addr → (List Addr → β) → β
  | 0, L, _, all, k => k (L ++ all)
  | n + 1, L, m, all, k => rowK g L m [] fun m new => asK g n new m (L ++ all) k
def frK {β : Type} (n : Nat) (g : Addr → Option Obj) (k : PySem.W.Frag → β) : β := asK g n [mainGlobals] (Nat.lor (Nat.shiftLeft 1 mainGlobals) (Nat.shiftLeft 1 cStatics)) [cStatics] fun all => takK g all [] k
theorem levK_eq : ∀ (r : List Addr) (m : Nat) (acc : List Addr), ∃ m' acc', ∀ (β : Type) (k : Nat → List Addr → β), levK r m acc k = k m' acc'
  | [], m, acc => ⟨m, acc, fun β k => by unfold levK; rw [HandSHeadRun.frNat_eq]⟩
  | a :: r, m, acc => by
    cases hb : Nat.beq (Nat.land (Nat.shiftRight m a) 1) 1 with
    | true =>
      obtain ⟨m', acc', h⟩ := levK_eq r m acc
      refine ⟨m', acc', fun β k => ?_⟩
      unfold levK
      rw [HandSHeadRun.frNat_eq, HandSHeadRun.frNat_eq, hb]
      exact h β k
    | false =>
      obtain ⟨m', acc', h⟩ := levK_eq r (Nat.lor m (Nat.shiftLeft 1 a)) (a :: acc)
      refine ⟨m', acc', fun β k => ?_⟩
      unfold levK
      rw [HandSHeadRun.frNat_eq, HandSHeadRun.frNat_eq, hb]
      exact h β k
theorem rowK_eq (g : Addr → Option Obj) : ∀ (r : List Addr) (m : Nat) (acc : List Addr), ∃ m' acc', ∀ (β : Type) (k : Nat → List Addr → β), rowK g r m acc k = k m' acc'
  | [], m, acc => ⟨m, acc, fun _ _ => rfl⟩
  | a :: r, m, acc => by
    obtain ⟨m1, acc1, e⟩ := levK_eq (refsK g a) m acc
    obtain ⟨m2, acc2, e2⟩ := rowK_eq g r m1 acc1
    refine ⟨m2, acc2, fun β k => ?_⟩
    unfold rowK
    rw [e]
    exact e2 β k
theorem takK_eq (g : Addr → Option Obj) : ∀ (r : List Addr) (K : PySem.W.Frag), (∀ a o, K.lookup a = some o → g a = some o) → ∃ K' : PySem.W.Frag, (∀ a o, K'.lookup a = some o → g a = some o) ∧ ∀ (β : Type) (k : PySem.W.Frag → β), takK g r K k = k K'
  | [], K, h => ⟨K, h, fun _ _ => rfl⟩
  | a :: r, K, h => by
    cases hg : g a with
    | none =>
      obtain ⟨K', h1, h2⟩ := takK_eq g r K h
      refine ⟨K', h1, fun β k => ?_⟩
      unfold takK
      rw [hg]
      exact h2 β k
    | some o =>
      obtain ⟨K', h1, h2⟩ := takK_eq g r ((a, o) :: K) fun b p e => by
        rw [List.lookup_cons] at e
        cases hb : b == a with
        | true =>
          rw [hb] at e
          cases e
          rw [eq_of_beq hb]
          exact hg
        | false =>
          rw [hb] at e
          exact h b p e
      refine ⟨K', h1, fun β k => ?_⟩
      unfold takK
      rw [hg]
      exact h2 β k
theorem asK_eq (g : Addr → Option Obj) : ∀ (n : Nat) (L : List Addr) (m : Nat) (all : List Addr), ∃ L', ∀ (β : Type) (k : List Addr → β), asK g n L m all k = k L'
  | 0, L, _, all => ⟨_, fun _ _ => rfl⟩
  | n + 1, L, m, all => by
    obtain ⟨m1, new, e⟩ := rowK_eq g L m []
    obtain ⟨L', e2⟩ := asK_eq g n new m1 (L ++ all)
    refine ⟨L', fun β k => ?_⟩
    unfold asK
    rw [e]
    exact e2 β k
theorem frK_eq (n : Nat) (g : Addr → Option Obj) : ∃ K : PySem.W.Frag, (∀ a o, K.lookup a = some o → g a = some o) ∧ ∀ (β : Type) (k : PySem.W.Frag → β), frK n g k = k K := by
  obtain ⟨L, e⟩ := asK_eq g n [mainGlobals] (Nat.lor (Nat.shiftLeft 1 mainGlobals) (Nat.shiftLeft 1 cStatics)) [cStatics]
  obtain ⟨K, h1, h2⟩ := takK_eq g L [] fun _ _ h => by cases h
  refine ⟨K, h1, fun β k => ?_⟩
  unfold frK
  rw [e]
  exact h2 β k
/-- the names' part of the heap, and the classes' statics -/
def obsM (n : Nat) (g : Addr → Option Obj) : AlM := frK n g fun K => (obsD fa fn K, xs.all fun f => f K)
def hookM (n : Nat) : PySem.W.Hook where
  α := AlM
  obs := fun s => obsM n s.heap.get?
  val := fun _ => (valD fn, true)
  says := fun _ h => ∃ K : PySem.W.Frag, K.In h ∧ (SaysD fa fn K ∧ (xs.all fun f => f K) = true)
  of := fun _ s e => by
    obtain ⟨K, h, k⟩ := frK_eq n s.heap.get?
    have e := (k _ fun K => (obsD fa fn K, xs.all fun f => f K)).symm.trans e
    exact ⟨K, fun a o q => h a o q, congrArg (fun z : AlM => z.1) e, congrArg (fun z : AlM => z.2) e⟩
  keeps := fun _ _ _ ⟨K, hK, c⟩ k => ⟨K, PySem.W.Frag.In.keeps hK k, c⟩
structure Env (K : PySem.W.Frag) (mg : Str → Option Value) : Prop where
  c : SaysD fa fn K
  g : ∃ h : Heap, K.In h ∧ h.Ns mainGlobals mg
  xa : (xs.all fun f => f K) = true
theorem Env.glo {K : PySem.W.Frag} {mg : Str → Option Value} (Z : Env K mg) (i : Nat) {x : Str} (h : fa[i]? = some (.glo x)) : mg x = some (.ref (ga K x)) := let ⟨_, X, G⟩ := Z.g; glo_ok X G (Z.c.fact i h)
theorem Env.free {K : PySem.W.Frag} {mg : Str → Option Value} (Z : Env K mg) (i : Nat) {x : Str} (h : fa[i]? = some (.free x)) : mg x = none := let ⟨_, X, G⟩ := Z.g; free_ok X G (Z.c.fact i h)
theorem Env.int {K : PySem.W.Frag} {mg : Str → Option Value} (Z : Env K mg) (j : Nat) {x : Str} {i : Int} (h : fa[j]? = some (.int x i)) : ∃ t, mg x = some (.int i t) := let ⟨_, X, G⟩ := Z.g; int_ok X G (Z.c.fact j h)
theorem Env.str {K : PySem.W.Frag} {mg : Str → Option Value} (Z : Env K mg) (j : Nat) {x z : Str} (h : fa[j]? = some (.str x z)) : ∃ t, mg x = some (.str z t) := let ⟨_, X, G⟩ := Z.g; str_ok X G (Z.c.fact j h)
theorem Env.x {K : PySem.W.Frag} {mg : Str → Option Value} (Z : Env K mg) (i : Nat) {f : PySem.W.Frag → Bool} (h : xs[i]? = some f) : f K = true := List.all_eq_true.mp Z.xa f (List.mem_of_getElem? h)

def sp_law (K : PySem.W.Frag) : Sp := fun vs H Q _ => ∃ (a : Addr) (ns : List Int), vs = [.ref a] ∧ SqL K H a (ns.map V.int) ∧ ns.length ≤ 63 ∧ ∀ H', Q (.bl true) H'
theorem run_law {K : PySem.W.Frag} {vs : List V} {H : Hp} {Q : VK} {E : XK} {N : List Str} {n : Nat} {b : MS} {bk ct : L2.St → Hp → Prop} (hN : N.length = n) (h : sp_law K vs H Q E) (pl : ∀ ns : List Int, ns.length ≤ 63 → ∃ s, mkF 1 n b [.fro (ns.map Dx.int)] [] = .ok (.bl true) s) :
    cS K p0 Wn b (Ends.mk (fun _ H' => Q .non H') Q bk ct) (L2.start N vs) H := by
  obtain ⟨a, ns, rfl, h1, h2, h3⟩ := h
  obtain ⟨s, hs⟩ := pl ns h2
  have g : (Wd.mk [] []).G H = H := by funext c; unfold Wd.G hid; simp
  have l : RvL K [] ((Wd.mk [] []).G H) [.ref a] [.fro (ns.map Dx.int)] := .cons (.fro (by rw [g]; exact h1) RvL.ints) .nil
  refine ⟨⟨[], []⟩, ⟨env0 n [.fro (ns.map Dx.int)], [], none⟩, [], ⟨List.nodup_nil, (fun a ha => by cases ha), rfl, (fun n c hc => by cases hc)⟩, env_start hN l, ?_⟩
  unfold mkF at hs
  rw [if_pos (show [Dx.fro (ns.map Dx.int)].length = 1 from rfl)] at hs
  cases hr : b ⟨env0 n [.fro (ns.map Dx.int)], [], none⟩ [] with
  | nx e1 s1 => rw [hr] at hs; cases hs
  | rt v s1 =>
    rw [hr] at hs
    cases hs
    exact fun w' H' v x R' r' => by cases r'; exact h3 H'
  | exc C fs e1 s1 => rw [hr] at hs; cases hs
  | bk e1 s1 => rw [hr] at hs; cases hs
  | ct e1 s1 => rw [hr] at hs; cases hs
  | stuck => rw [hr] at hs; cases hs
section
variable {P : Program} {w : World} {K : PySem.W.Frag} {mg : Str → Option Value} {base : Heap}
theorem sc_law_begin : FnScope ["_law_cell"] ["_law_cell"] (defScope s_law_begin) := ⟨rfl, rfl, rfl, by decide +kernel, rfl, by decide +kernel, by decide +kernel⟩
theorem okA_law_begin (Z : Env K mg) {fd : FuncData} (F : FunD K d_law_begin.name d_law_begin.qual d_law_begin.params d_law_begin.body d_law_begin.scope (d_law_begin.dvs K) (d_law_begin.kws K) (fAd K d_law_begin.at_) fd) : FnOk P w K mg base (L2.CX P w) 1 (ga K "_law_begin") fd ["_law_cell"] (spM K m_law_begin) := by
  have hc : Hc K := Z.x 0 (f := hcB) rfl
  have xc : Xc K := Z.x 1 (f := xcB) rfl
  refine F.ok (CX := (L2.CX P w)) sc_law_begin (fun vs H Q E h => len_M h) (fun cdv A outer s H vs Q E hr h => ⟨cS K p0 (wE E) b_law_begin, ?_, run_M rfl h⟩)
  exact (pss_one (imS i_ret (ps_ret (imE i_lst (pe_lst (imA i_cons (pa_cons (qe_op om_mul (qe_op om_div (imE i_var (pv 0)) (imE i_int pe_int)) (qe_op om_sub (imE i_int pe_int) (qe_op om_mod (imE i_var (pv 0)) (imE i_int pe_int)))) (imA i_cons (pa_cons (qe_op om_mod (imE i_var (pv 0)) (imE i_int pe_int)) (imA i_cons (pa_cons (imE i_int pe_int) (imA i_nil pa_nil))))))))))))
theorem ok_law_begin (Z : Env K mg) : ∃ fd, FnOk P w K mg base (L2.CX P w) 1 (ga K "_law_begin") fd ["_law_cell"] (spM K m_law_begin) ∧ Binds K fd ["_law_cell"] [] ∧ PySem.W.keepIn K (.ref (ga K "_law_begin")) = true := by
  obtain ⟨fd, F⟩ := Z.c.def_ 0 (d := d_law_begin) rfl
  exact ⟨fd, okA_law_begin Z F, F.bindsN fun _ _ _ _ _ _ us hl => match us, hl with | [_], _ => rfl, F.kp⟩
theorem sc_law_next : FnScope ["_law_state", "_law_base", "_law_found", "_law_number"] ["_law_state", "_law_base"] (defScope s_law_next) := ⟨rfl, rfl, rfl, by decide +kernel, rfl, by decide +kernel, by decide +kernel⟩
theorem okA_law_next (Z : Env K mg) {fd : FuncData} (F : FunD K d_law_next.name d_law_next.qual d_law_next.params d_law_next.body d_law_next.scope (d_law_next.dvs K) (d_law_next.kws K) (fAd K d_law_next.at_) fd) : FnOk P w K mg base (L2.CX P w) 1 (ga K "_law_next") fd ["_law_state", "_law_base"] (spM K m_law_next) := by
  have hc : Hc K := Z.x 0 (f := hcB) rfl
  have xc : Xc K := Z.x 1 (f := xcB) rfl
  refine F.ok (CX := (L2.CX P w)) sc_law_next (fun vs H Q E h => len_M h) (fun cdv A outer s H vs Q E hr h => ⟨cS K p0 (wE E) b_law_next, ?_, run_M rfl h⟩)
  exact (imSs i_seq (pss_cons (imS i_ifS (ps_if (qt_cmp om_gt (qe_ix (imE i_var (pv 0)) (imE i_int pe_int) (fun _ _ => rfl)) (imE i_int pe_int) (nomark _)) (imSs i_seq (pss_cons (imS (i_asgN ⟨.inl rfl, .inl rfl⟩ (fun _ _ _ h => h)) (ps_set (i := 2) sc_law_next.nd rfl (Or.inl rfl) (qe_op om_mod (qe_ix (imE i_var (pv 0)) (imE i_int pe_int) (fun _ _ => rfl)) (imE i_var (pv 1)))))
    (imSs i_seq (pss_cons (imS i_put (ps_asg (qe_op om_div (qe_ix (imE i_var (pv 0)) (imE i_int pe_int) (fun _ _ => rfl)) (imE i_var (pv 1))) (pg_sub (imE i_var (pv 0)) (imE i_int pe_int) set_list)))
    (pss_one (imS i_ret (ps_ret (imE i_var (pv 2))))))))) (imSs i_next pss_nil)))
    (imSs i_seq (pss_cons (imS i_put (ps_asg (qe_op om_add (qe_ix (imE i_var (pv 0)) (imE i_int pe_int) (fun _ _ => rfl)) (imE i_int pe_int)) (pg_sub (imE i_var (pv 0)) (imE i_int pe_int) set_list)))
    (imSs i_seq (pss_cons (imS (i_asgN ⟨.inl rfl, .inl rfl⟩ (fun _ _ _ h => h)) (ps_set (i := 3) sc_law_next.nd rfl (Or.inl rfl) (qe_op om_mod (qe_op om_mul (qe_op om_add (qe_op om_add (qe_ix (imE i_var (pv 0)) (imE i_int pe_int) (fun _ _ => rfl)) (qe_op om_mul (imE i_int pe_int) (qe_ix (imE i_var (pv 0)) (imE i_int pe_int) (fun _ _ => rfl)))) (imE i_int pe_int)) (imE i_int pe_int)) (imE i_int pe_int))))
    (imSs i_seq (pss_cons (imS (i_asgN ⟨.inl rfl, .inl rfl⟩ (fun _ _ _ h => h)) (ps_set (i := 3) sc_law_next.nd rfl (Or.inl rfl) (qe_op om_mod (qe_op om_mul (imE i_var (pv 3)) (qe_op om_add (qe_op om_div (imE i_var (pv 3)) (imE i_int pe_int)) (imE i_int pe_int))) (imE i_int pe_int))))
    (imSs i_seq (pss_cons (imS (i_asgN ⟨.inl rfl, .inl rfl⟩ (fun _ _ _ h => h)) (ps_set (i := 3) sc_law_next.nd rfl (Or.inl rfl) (qe_op om_mod (qe_op om_mul (imE i_var (pv 3)) (qe_op om_add (qe_op om_div (imE i_var (pv 3)) (imE i_int pe_int)) (imE i_int pe_int))) (imE i_int pe_int))))
    (pss_one (imS i_ret (ps_ret (qe_op om_mod (qe_op om_div (imE i_var (pv 3)) (imE i_int pe_int)) (imE i_var (pv 1))))))))))))))))
theorem ok_law_next (Z : Env K mg) : ∃ fd, FnOk P w K mg base (L2.CX P w) 1 (ga K "_law_next") fd ["_law_state", "_law_base"] (spM K m_law_next) ∧ Binds K fd ["_law_state", "_law_base"] [] ∧ PySem.W.keepIn K (.ref (ga K "_law_next")) = true := by
  obtain ⟨fd, F⟩ := Z.c.def_ 1 (d := d_law_next) rfl
  exact ⟨fd, okA_law_next Z F, F.bindsN fun _ _ _ _ _ _ us hl => match us, hl with | [_, _], _ => rfl, F.kp⟩
theorem sc_law_word : FnScope ["_law_state", "_law_some"] ["_law_state"] (defScope s_law_word) := ⟨rfl, rfl, rfl, by decide +kernel, rfl, by decide +kernel, by decide +kernel⟩
theorem okA_law_word (Z : Env K mg) {fd : FuncData} (F : FunD K d_law_word.name d_law_word.qual d_law_word.params d_law_word.body d_law_word.scope (d_law_word.dvs K) (d_law_word.kws K) (fAd K d_law_word.at_) fd) : FnOk P w K mg base (L2.CX P w) 2 (ga K "_law_word") fd ["_law_state"] (spM K m_law_word) := by
  obtain ⟨fd_law_next, G_law_next, b_law_next, k_law_next⟩ := ok_law_next (P := P) (w := w) (base := base) Z
  have g__law_next := Z.glo 0 (x := "_law_next") rfl
  have hc : Hc K := Z.x 0 (f := hcB) rfl
  have xc : Xc K := Z.x 1 (f := xcB) rfl
  refine F.ok (CX := (L2.CX P w)) sc_law_word (fun vs H Q E h => len_M h) (fun cdv A outer s H vs Q E hr h => ⟨cS K p0 (wE E) b_law_word, ?_, run_M rfl h⟩)
  exact (imSs i_seq (pss_cons (imS (i_asgN ⟨.inl rfl, .inl rfl⟩ (fun _ _ _ h => h)) (ps_set (i := 1) sc_law_word.nd rfl (Or.inl rfl) (imE i_lst (pe_lst (imA i_cons (pa_cons (imE i_str pe_str) (imA i_cons (pa_cons (imE i_str pe_str) (imA i_cons (pa_cons (imE i_str pe_str) (imA i_cons (pa_cons (imE i_str pe_str) (imA i_cons (pa_cons (imE i_str pe_str) (imA i_cons (pa_cons (imE i_str pe_str) (imA i_cons (pa_cons (imE i_str pe_str) (imA i_cons (pa_cons (imE i_str pe_str) (imA i_cons (pa_cons (imE i_str pe_str) (imA i_cons (pa_cons (imE i_str pe_str) (imA i_cons (pa_cons (imE i_str pe_str) (imA i_cons (pa_cons (imE i_str pe_str) (imA i_cons (pa_cons (imE i_str pe_str) (imA i_cons (pa_cons (imE i_str pe_str) (imA i_cons (pa_cons (imE i_str pe_str) (imA i_nil pa_nil)))))))))))))))))))))))))))))))))))
    (imSs i_seq (pss_cons (imS (i_asgN ⟨.inl rfl, .inl rfl⟩ (fun _ _ _ h => h)) (ps_set (i := 1) sc_law_word.nd rfl (Or.inl rfl) (qe_op om_addC (imE i_var (pv 1)) (imE i_lst (pe_lst (imA i_cons (pa_cons (imE i_str pe_str) (imA i_cons (pa_cons (imE i_str pe_str) (imA i_cons (pa_cons (imE i_str pe_str) (imA i_cons (pa_cons (imE i_str pe_str) (imA i_cons (pa_cons (imE i_str pe_str) (imA i_cons (pa_cons (imE i_str pe_str) (imA i_cons (pa_cons (imE i_str pe_str) (imA i_cons (pa_cons (imE i_str pe_str) (imA i_cons (pa_cons (imE i_str pe_str) (imA i_cons (pa_cons (imE i_str pe_str) (imA i_cons (pa_cons (imE i_str pe_str) (imA i_cons (pa_cons (imE i_str pe_str) (imA i_cons (pa_cons (imE i_str pe_str) (imA i_cons (pa_cons (imE i_str pe_str) (imA i_nil pa_nil))))))))))))))))))))))))))))))))))
    (imSs i_seq (pss_cons (imS i_drop (ps_expr (imE i_app (pe_bm PySem.F.plainAttrs_list PySem.F.slot_list_append PySem.F.type_list_append mt_append (imE i_var (pv 1)) (pa_cons (imE i_str pe_str) pa_nil)))))
    (pss_one (imS i_ret (ps_ret (qe_ix (imE i_var (pv 1)) (imE i_call (pe_callS G_law_next (hr.mono (by decide)) (by exact rfl) g__law_next k_law_next b_law_next (fun σ => passAt (takes_of rfl rfl rfl rfl) σ) (imA i_cons (pa_cons (imE i_var (pv 0)) (imA i_cons (pa_cons (imE i_int pe_int) (imA i_nil pa_nil))))))) (fun _ _ => rfl)))))))))))
theorem ok_law_word (Z : Env K mg) : ∃ fd, FnOk P w K mg base (L2.CX P w) 2 (ga K "_law_word") fd ["_law_state"] (spM K m_law_word) ∧ Binds K fd ["_law_state"] [] ∧ PySem.W.keepIn K (.ref (ga K "_law_word")) = true := by
  obtain ⟨fd, F⟩ := Z.c.def_ 2 (d := d_law_word) rfl
  exact ⟨fd, okA_law_word Z F, F.bindsN fun _ _ _ _ _ _ us hl => match us, hl with | [_], _ => rfl, F.kp⟩
theorem sc_law_changed : FnScope ["_law_words", "_law_state", "_law_way", "_law_at", "_law_other", "_law_rest", "_law_turned"] ["_law_words", "_law_state"] (defScope s_law_changed) := ⟨rfl, rfl, rfl, by decide +kernel, rfl, by decide +kernel, by decide +kernel⟩
theorem okA_law_changed (Z : Env K mg) {fd : FuncData} (F : FunD K d_law_changed.name d_law_changed.qual d_law_changed.params d_law_changed.body d_law_changed.scope (d_law_changed.dvs K) (d_law_changed.kws K) (fAd K d_law_changed.at_) fd) : FnOk P w K mg base (L2.CX P w) 3 (ga K "_law_changed") fd ["_law_words", "_law_state"] (spM K m_law_changed) := by
  obtain ⟨fd_law_next, G_law_next, b_law_next, k_law_next⟩ := ok_law_next (P := P) (w := w) (base := base) Z
  obtain ⟨fd_law_word, G_law_word, b_law_word, k_law_word⟩ := ok_law_word (P := P) (w := w) (base := base) Z
  have g__law_next := Z.glo 0 (x := "_law_next") rfl
  have g__law_word := Z.glo 1 (x := "_law_word") rfl
  have z_len := Z.free 2 (x := "len") rfl
  have z_list := Z.free 3 (x := "list") rfl
  have hc : Hc K := Z.x 0 (f := hcB) rfl
  have xc : Xc K := Z.x 1 (f := xcB) rfl
  refine F.ok (CX := (L2.CX P w)) sc_law_changed (fun vs H Q E h => len_M h) (fun cdv A outer s H vs Q E hr h => ⟨cS K p0 (wE E) b_law_changed, ?_, run_M rfl h⟩)
  exact (imSs i_seq (pss_cons (imS (i_asgN ⟨.inl rfl, .inl rfl⟩ (fun _ _ _ h => h)) (ps_set (i := 2) sc_law_changed.nd rfl (Or.inl rfl) (imE i_call (pe_callS G_law_next (hr.mono (by decide)) (by exact rfl) g__law_next k_law_next b_law_next (fun σ => passAt (takes_of rfl rfl rfl rfl) σ) (imA i_cons (pa_cons (imE i_var (pv 1)) (imA i_cons (pa_cons (imE i_int pe_int) (imA i_nil pa_nil)))))))))
    (imSs i_seq (pss_cons (imS (i_asgN ⟨.inl rfl, .inl rfl⟩ (fun _ _ _ h => h)) (ps_set (i := 3) sc_law_changed.nd rfl (Or.inl rfl) (imE i_call (pe_callS G_law_next (hr.mono (by decide)) (by exact rfl) g__law_next k_law_next b_law_next (fun σ => passAt (takes_of rfl rfl rfl rfl) σ) (imA i_cons (pa_cons (imE i_var (pv 1)) (imA i_cons (pa_cons (qe_cb cm_len fun _ q => pe_callB q (by rfl) z_len (by decide +kernel) (imA i_cons (pa_cons (imE i_var (pv 0)) (imA i_nil pa_nil)))) (imA i_nil pa_nil)))))))))
    (imSs i_seq (pss_cons (imS (i_asgN ⟨.inl rfl, .inl rfl⟩ (fun _ _ _ h => h)) (ps_set (i := 4) sc_law_changed.nd rfl (Or.inl rfl) (imE i_call (pe_callS G_law_next (hr.mono (by decide)) (by exact rfl) g__law_next k_law_next b_law_next (fun σ => passAt (takes_of rfl rfl rfl rfl) σ) (imA i_cons (pa_cons (imE i_var (pv 1)) (imA i_cons (pa_cons (qe_cb cm_len fun _ q => pe_callB q (by rfl) z_len (by decide +kernel) (imA i_cons (pa_cons (imE i_var (pv 0)) (imA i_nil pa_nil)))) (imA i_nil pa_nil)))))))))
    (imSs i_seq (pss_cons (imS i_ifS (ps_if (qt_cmp (om_eq hr.units) (imE i_var (pv 2)) (imE i_int pe_int) (nomark _)) (pss_one (imS i_ret (ps_ret (qe_op om_add (qe_sl (imE i_var (pv 0)) (imO i_oNone po_none) (imO i_oSome (po_some (imE i_var (pv 3))))) (qe_sl (imE i_var (pv 0)) (imO i_oSome (po_some (qe_op om_add (imE i_var (pv 3)) (imE i_int pe_int)))) (imO i_oNone po_none)))))) (imSs i_next pss_nil)))
    (imSs i_seq (pss_cons (imS i_ifS (ps_if (qt_cmp (om_eq hr.units) (imE i_var (pv 2)) (imE i_int pe_int) (nomark _)) (pss_one (imS i_ret (ps_ret (qe_op om_add (qe_op om_add (qe_sl (imE i_var (pv 0)) (imO i_oNone po_none) (imO i_oSome (po_some (imE i_var (pv 3))))) (qe_sl (imE i_var (pv 0)) (imO i_oSome (po_some (imE i_var (pv 3)))) (imO i_oSome (po_some (qe_op om_add (imE i_var (pv 3)) (imE i_int pe_int)))))) (qe_sl (imE i_var (pv 0)) (imO i_oSome (po_some (imE i_var (pv 3)))) (imO i_oNone po_none)))))) (imSs i_next pss_nil)))
    (imSs i_seq (pss_cons (imS i_ifS (ps_if (qt_cmp (om_eq hr.units) (imE i_var (pv 2)) (imE i_int pe_int) (nomark _)) (imSs i_seq (pss_cons (imS (i_asgN ⟨.inl rfl, .inl rfl⟩ (fun _ _ _ h => h)) (ps_set (i := 5) sc_law_changed.nd rfl (Or.inl rfl) (qe_op om_add (qe_sl (imE i_var (pv 0)) (imO i_oNone po_none) (imO i_oSome (po_some (imE i_var (pv 3))))) (qe_sl (imE i_var (pv 0)) (imO i_oSome (po_some (qe_op om_add (imE i_var (pv 3)) (imE i_int pe_int)))) (imO i_oNone po_none)))))
    (pss_one (imS i_ret (ps_ret (qe_op om_add (qe_op om_add (qe_sl (imE i_var (pv 5)) (imO i_oNone po_none) (imO i_oSome (po_some (imE i_var (pv 4))))) (qe_sl (imE i_var (pv 0)) (imO i_oSome (po_some (imE i_var (pv 3)))) (imO i_oSome (po_some (qe_op om_add (imE i_var (pv 3)) (imE i_int pe_int)))))) (qe_sl (imE i_var (pv 5)) (imO i_oSome (po_some (imE i_var (pv 4)))) (imO i_oNone po_none)))))))) (imSs i_next pss_nil)))
    (imSs i_seq (pss_cons (imS i_ifS (ps_if (qt_cmp (om_eq hr.units) (imE i_var (pv 2)) (imE i_int pe_int) (nomark _)) (imSs i_seq (pss_cons (imS (i_asgN ⟨.inl rfl, .inl rfl⟩ (fun _ _ _ h => h)) (ps_set (i := 6) sc_law_changed.nd rfl (Or.inl rfl) (qe_cb (cm_list true) fun _ q => pe_callTy q (by rfl) z_list (by decide +kernel) (imA i_cons (pa_cons (imE i_var (pv 0)) (imA i_nil pa_nil))))))
    (imSs i_seq (pss_cons (imS i_put (ps_asg (qe_ix (imE i_var (pv 0)) (imE i_var (pv 4)) (fun _ _ => rfl)) (pg_sub (imE i_var (pv 6)) (imE i_var (pv 3)) set_list)))
    (imSs i_seq (pss_cons (imS i_put (ps_asg (qe_ix (imE i_var (pv 0)) (imE i_var (pv 3)) (fun _ _ => rfl)) (pg_sub (imE i_var (pv 6)) (imE i_var (pv 4)) set_list)))
    (pss_one (imS i_ret (ps_ret (imE i_var (pv 6))))))))))) (imSs i_next pss_nil)))
    (pss_one (imS i_ret (ps_ret (qe_op om_add (qe_op om_add (qe_sl (imE i_var (pv 0)) (imO i_oNone po_none) (imO i_oSome (po_some (imE i_var (pv 3))))) (imE i_lst (pe_lst (imA i_cons (pa_cons (imE i_call (pe_callS G_law_word (hr.mono (by decide)) (by exact rfl) g__law_word k_law_word b_law_word (fun σ => passAt (takes_of rfl rfl rfl rfl) σ) (imA i_cons (pa_cons (imE i_var (pv 1)) (imA i_nil pa_nil))))) (imA i_nil pa_nil)))))) (qe_sl (imE i_var (pv 0)) (imO i_oSome (po_some (qe_op om_add (imE i_var (pv 3)) (qe_op om_mod (imE i_var (pv 2)) (imE i_int pe_int))))) (imO i_oNone po_none))))))))))))))))))))
theorem ok_law_changed (Z : Env K mg) : ∃ fd, FnOk P w K mg base (L2.CX P w) 3 (ga K "_law_changed") fd ["_law_words", "_law_state"] (spM K m_law_changed) ∧ Binds K fd ["_law_words", "_law_state"] [] ∧ PySem.W.keepIn K (.ref (ga K "_law_changed")) = true := by
  obtain ⟨fd, F⟩ := Z.c.def_ 3 (d := d_law_changed) rfl
  exact ⟨fd, okA_law_changed Z F, F.bindsN fun _ _ _ _ _ _ us hl => match us, hl with | [_, _], _ => rfl, F.kp⟩
theorem sc_law_spoilt : FnScope ["_law_words", "_law_state", "_law_k"] ["_law_words", "_law_state"] (defScope s_law_spoilt) := ⟨rfl, rfl, rfl, by decide +kernel, rfl, by decide +kernel, by decide +kernel⟩
theorem okA_law_spoilt (Z : Env K mg) {fd : FuncData} (F : FunD K d_law_spoilt.name d_law_spoilt.qual d_law_spoilt.params d_law_spoilt.body d_law_spoilt.scope (d_law_spoilt.dvs K) (d_law_spoilt.kws K) (fAd K d_law_spoilt.at_) fd) : FnOk P w K mg base (L2.CX P w) 4 (ga K "_law_spoilt") fd ["_law_words", "_law_state"] (spM K m_law_spoilt) := by
  obtain ⟨fd_law_changed, G_law_changed, b_law_changed, k_law_changed⟩ := ok_law_changed (P := P) (w := w) (base := base) Z
  obtain ⟨fd_law_next, G_law_next, b_law_next, k_law_next⟩ := ok_law_next (P := P) (w := w) (base := base) Z
  obtain ⟨fd_law_word, G_law_word, b_law_word, k_law_word⟩ := ok_law_word (P := P) (w := w) (base := base) Z
  have g__law_changed := Z.glo 4 (x := "_law_changed") rfl
  have g__law_next := Z.glo 0 (x := "_law_next") rfl
  have g__law_word := Z.glo 1 (x := "_law_word") rfl
  have z_range := Z.free 5 (x := "range") rfl
  have hc : Hc K := Z.x 0 (f := hcB) rfl
  have xc : Xc K := Z.x 1 (f := xcB) rfl
  refine F.ok (CX := (L2.CX P w)) sc_law_spoilt (fun vs H Q E h => len_M h) (fun cdv A outer s H vs Q E hr h => ⟨cS K p0 (wE E) b_law_spoilt, ?_, run_M rfl h⟩)
  exact (imSs i_seq (pss_cons (imS i_ifS (ps_if (qt_cmp (om_eq hr.units) (imE i_call (pe_callS G_law_next (hr.mono (by decide)) (by exact rfl) g__law_next k_law_next b_law_next (fun σ => passAt (takes_of rfl rfl rfl rfl) σ) (imA i_cons (pa_cons (imE i_var (pv 1)) (imA i_cons (pa_cons (imE i_int pe_int) (imA i_nil pa_nil))))))) (imE i_int pe_int) (nomark _)) (pss_one (imS i_ret (ps_ret (imE (i_lc (fun _ _ => ⟨.inl rfl, .inl rfl⟩) (fun _ h => h)) (pe_lc (own := [("_law_k", 2)]) rfl sc_law_spoilt.nd (imI i_wRng1 (pi_range1 rfl z_range (imA i_cons (pa_cons (qe_op om_add (imE i_int pe_int) (imE i_call (pe_callS G_law_next (hr.mono (by decide)) (by exact rfl) g__law_next k_law_next b_law_next (fun σ => passAt (takes_of rfl rfl rfl rfl) σ) (imA i_cons (pa_cons (imE i_var (pv 1)) (imA i_cons (pa_cons (imE i_int pe_int) (imA i_nil pa_nil)))))))) (imA i_nil pa_nil))))) (blkOk_by (own := [("_law_k", 2)]) (N := ["_law_words", "_law_state", "_law_k"]) (sc := defScope s_law_spoilt) (by decide +kernel)) (fun _ _ _ _ _ => (imG (i_hNm ⟨.inl rfl, .inl rfl⟩) (pg_name (i := 2) sc_law_spoilt.nd rfl (Or.inl rfl)))) (fun _ _ _ _ _ => (imTs i_uYes pts_nil)) (fun _ _ _ _ _ => (imE i_call (pe_callS G_law_word (hr.mono (by decide)) (by exact rfl) g__law_word k_law_word b_law_word (fun σ => passAt takes0 σ) (imA i_cons (pa_cons (imE i_var (pv 1)) (imA i_nil pa_nil))))))))))) (imSs i_next pss_nil)))
    (imSs i_seq (pss_cons (imS i_for (ps_for (passes_of rfl) rfl (imI i_wRng1 (pi_range1 rfl z_range (imA i_cons (pa_cons (qe_op om_add (imE i_int pe_int) (imE i_call (pe_callS G_law_next (hr.mono (by decide)) (by exact rfl) g__law_next k_law_next b_law_next (fun σ => passAt (takes_of rfl rfl rfl rfl) σ) (imA i_cons (pa_cons (imE i_var (pv 1)) (imA i_cons (pa_cons (imE i_int pe_int) (imA i_nil pa_nil)))))))) (imA i_nil pa_nil))))) (imG (i_hNm ⟨.inl rfl, .inl rfl⟩) (pg_name (i := 2) sc_law_spoilt.nd rfl (Or.inl rfl)))
    (pss_one (imS i_ifS (ps_if (qt_cmp (om_neE hr.units) (imE i_var (pv 0)) (imE i_lst (pe_lst (imA i_nil pa_nil))) (nomark _)) (pss_one (imS (i_asgN ⟨.inl rfl, .inl rfl⟩ (fun _ _ _ h => h)) (ps_set (i := 0) sc_law_spoilt.nd rfl (Or.inl rfl) (imE i_call (pe_callS G_law_changed (hr.mono (by decide)) (by exact rfl) g__law_changed k_law_changed b_law_changed (fun σ => passAt (takes_of rfl rfl rfl rfl) σ) (imA i_cons (pa_cons (imE i_var (pv 0)) (imA i_cons (pa_cons (imE i_var (pv 1)) (imA i_nil pa_nil)))))))))) (imSs i_next pss_nil))))))
    (pss_one (imS i_ret (ps_ret (imE i_var (pv 0)))))))))
theorem ok_law_spoilt (Z : Env K mg) : ∃ fd, FnOk P w K mg base (L2.CX P w) 4 (ga K "_law_spoilt") fd ["_law_words", "_law_state"] (spM K m_law_spoilt) ∧ Binds K fd ["_law_words", "_law_state"] [] ∧ PySem.W.keepIn K (.ref (ga K "_law_spoilt")) = true := by
  obtain ⟨fd, F⟩ := Z.c.def_ 4 (d := d_law_spoilt) rfl
  exact ⟨fd, okA_law_spoilt Z F, F.bindsN fun _ _ _ _ _ _ us hl => match us, hl with | [_, _], _ => rfl, F.kp⟩
theorem sc_law_is_name : FnScope ["_law_word_here", "_law_sign"] ["_law_word_here"] (defScope s_law_is_name) := ⟨rfl, rfl, rfl, by decide +kernel, rfl, by decide +kernel, by decide +kernel⟩
theorem okA_law_is_name (Z : Env K mg) {fd : FuncData} (F : FunD K d_law_is_name.name d_law_is_name.qual d_law_is_name.params d_law_is_name.body d_law_is_name.scope (d_law_is_name.dvs K) (d_law_is_name.kws K) (fAd K d_law_is_name.at_) fd) : FnOk P w K mg base (L2.CX P w) 1 (ga K "_law_is_name") fd ["_law_word_here"] (spM K m_law_is_name) := by
  have z_len := Z.free 2 (x := "len") rfl
  have hc : Hc K := Z.x 0 (f := hcB) rfl
  have xc : Xc K := Z.x 1 (f := xcB) rfl
  refine F.ok (CX := (L2.CX P w)) sc_law_is_name (fun vs H Q E h => len_M h) (fun cdv A outer s H vs Q E hr h => ⟨cS K p0 (wE E) b_law_is_name, ?_, run_M rfl h⟩)
  exact (pss_one (imS i_ret (ps_ret (imE i_and (pe_and (qe_chain om_le om_le (imE i_int pe_int) (qe_cb cm_len fun _ q => pe_callB q (by rfl) z_len (by decide +kernel) (imA i_cons (pa_cons (imE i_var (pv 0)) (imA i_nil pa_nil)))) (imE i_int pe_int)) (pe_one (qe_cmp (om_eqE hr.units) (imE (i_lc (fun _ _ => ⟨.inl rfl, .inl rfl⟩) (fun _ h => h)) (pe_lc (own := [("_law_sign", 1)]) rfl sc_law_is_name.nd (qi_D (imE i_var (pv 0))) (blkOk_by (own := [("_law_sign", 1)]) (N := ["_law_word_here", "_law_sign"]) (sc := defScope s_law_is_name) (by decide +kernel)) (fun _ _ _ _ _ => (imG (i_hNm ⟨.inl rfl, .inl rfl⟩) (pg_name (i := 1) sc_law_is_name.nd rfl (Or.inl rfl)))) (fun _ _ _ _ _ => (pts_one (qt_cmp om_notIn (imE i_var (pv 1)) (imE i_str pe_str) (by rfl)))) (fun _ _ _ _ _ => (imE i_var (pv 1))))) (imE i_lst (pe_lst (imA i_nil pa_nil))) (nomark _))))))))
theorem ok_law_is_name (Z : Env K mg) : ∃ fd, FnOk P w K mg base (L2.CX P w) 1 (ga K "_law_is_name") fd ["_law_word_here"] (spM K m_law_is_name) ∧ Binds K fd ["_law_word_here"] [] ∧ PySem.W.keepIn K (.ref (ga K "_law_is_name")) = true := by
  obtain ⟨fd, F⟩ := Z.c.def_ 5 (d := d_law_is_name) rfl
  exact ⟨fd, okA_law_is_name Z F, F.bindsN fun _ _ _ _ _ _ us hl => match us, hl with | [_], _ => rfl, F.kp⟩
theorem sc_law_names : FnScope ["_law_words", "_law_at", "_law_names_here"] ["_law_words", "_law_at"] (defScope s_law_names) := ⟨rfl, rfl, rfl, by decide +kernel, rfl, by decide +kernel, by decide +kernel⟩
theorem okA_law_names (Z : Env K mg) {fd : FuncData} (F : FunD K d_law_names.name d_law_names.qual d_law_names.params d_law_names.body d_law_names.scope (d_law_names.dvs K) (d_law_names.kws K) (fAd K d_law_names.at_) fd) : FnOk P w K mg base (L2.CX P w) 2 (ga K "_law_names") fd ["_law_words", "_law_at"] (spM K m_law_names) := by
  obtain ⟨fd_law_is_name, G_law_is_name, b_law_is_name, k_law_is_name⟩ := ok_law_is_name (P := P) (w := w) (base := base) Z
  have g__law_is_name := Z.glo 6 (x := "_law_is_name") rfl
  have z_len := Z.free 2 (x := "len") rfl
  have hc : Hc K := Z.x 0 (f := hcB) rfl
  have xc : Xc K := Z.x 1 (f := xcB) rfl
  refine F.ok (CX := (L2.CX P w)) sc_law_names (fun vs H Q E h => len_M h) (fun cdv A outer s H vs Q E hr h => ⟨cS K p0 (wE E) b_law_names, ?_, run_M rfl h⟩)
  exact (imSs i_seq (pss_cons (imS (i_asgN ⟨.inl rfl, .inl rfl⟩ (fun _ _ _ h => h)) (ps_set (i := 2) sc_law_names.nd rfl (Or.inl rfl) (imE i_lst (pe_lst (imA i_nil pa_nil)))))
    (imSs i_seq (pss_cons (imS i_while (ps_while (passes_of rfl) (PW.pt (imW i_uAnd (pw_and (qt_cmp om_lt (imE i_var (pv 1)) (qe_cb cm_len fun _ q => pe_callB q (by rfl) z_len (by decide +kernel) (imA i_cons (pa_cons (imE i_var (pv 0)) (imA i_nil pa_nil)))) (nomark _)) (pw_and1 (imT i_tru (pt_truth (imE i_call (pe_callS G_law_is_name (hr.mono (by decide)) (by exact rfl) g__law_is_name k_law_is_name b_law_is_name (fun σ => passAt (takes_of rfl rfl rfl rfl) σ) (imA i_cons (pa_cons (qe_ix (imE i_var (pv 0)) (imE i_var (pv 1)) (fun _ _ => rfl)) (imA i_nil pa_nil))))) (by intro _; rfl)))))))
    (imSs i_seq (pss_cons (imS i_drop (ps_expr (imE i_app (pe_bm PySem.F.plainAttrs_list PySem.F.slot_list_append PySem.F.type_list_append mt_append (imE i_var (pv 2)) (pa_cons (qe_ix (imE i_var (pv 0)) (imE i_var (pv 1)) (fun _ _ => rfl)) pa_nil)))))
    (pss_one (imS (i_asgN ⟨.inl rfl, .inl rfl⟩ (fun _ _ _ h => h)) (ps_set (i := 1) sc_law_names.nd rfl (Or.inl rfl) (qe_op om_add (imE i_var (pv 1)) (imE i_int pe_int)))))))))
    (pss_one (imS i_ret (ps_ret (imE i_var (pv 2)))))))))
theorem ok_law_names (Z : Env K mg) : ∃ fd, FnOk P w K mg base (L2.CX P w) 2 (ga K "_law_names") fd ["_law_words", "_law_at"] (spM K m_law_names) ∧ Binds K fd ["_law_words", "_law_at"] [] ∧ PySem.W.keepIn K (.ref (ga K "_law_names")) = true := by
  obtain ⟨fd, F⟩ := Z.c.def_ 6 (d := d_law_names) rfl
  exact ⟨fd, okA_law_names Z F, F.bindsN fun _ _ _ _ _ _ us hl => match us, hl with | [_, _], _ => rfl, F.kp⟩
theorem sc_law_is_weight : FnScope ["_law_word_here", "_law_sign"] ["_law_word_here"] (defScope s_law_is_weight) := ⟨rfl, rfl, rfl, by decide +kernel, rfl, by decide +kernel, by decide +kernel⟩
theorem okA_law_is_weight (Z : Env K mg) {fd : FuncData} (F : FunD K d_law_is_weight.name d_law_is_weight.qual d_law_is_weight.params d_law_is_weight.body d_law_is_weight.scope (d_law_is_weight.dvs K) (d_law_is_weight.kws K) (fAd K d_law_is_weight.at_) fd) : FnOk P w K mg base (L2.CX P w) 1 (ga K "_law_is_weight") fd ["_law_word_here"] (spM K m_law_is_weight) := by
  have z_len := Z.free 2 (x := "len") rfl
  have hc : Hc K := Z.x 0 (f := hcB) rfl
  have xc : Xc K := Z.x 1 (f := xcB) rfl
  refine F.ok (CX := (L2.CX P w)) sc_law_is_weight (fun vs H Q E h => len_M h) (fun cdv A outer s H vs Q E hr h => ⟨cS K p0 (wE E) b_law_is_weight, ?_, run_M rfl h⟩)
  exact (imSs i_seq (pss_cons (imS i_ifS (ps_if (PW.pt (imW i_uOr (pw_or (qt_cmp (om_eq hr.units) (imE i_var (pv 0)) (imE i_str pe_str) (nomark _)) (imW i_uOr (pw_or (qt_cmp om_gt (qe_cb cm_len fun _ q => pe_callB q (by rfl) z_len (by decide +kernel) (imA i_cons (pa_cons (imE i_var (pv 0)) (imA i_nil pa_nil)))) (imE i_int pe_int) (nomark _)) (pw_or1 (qt_cmp (om_neE hr.units) (imE (i_lc (fun _ _ => ⟨.inl rfl, .inl rfl⟩) (fun _ h => h)) (pe_lc (own := [("_law_sign", 1)]) rfl sc_law_is_weight.nd (qi_D (imE i_var (pv 0))) (blkOk_by (own := [("_law_sign", 1)]) (N := ["_law_word_here", "_law_sign"]) (sc := defScope s_law_is_weight) (by decide +kernel)) (fun _ _ _ _ _ => (imG (i_hNm ⟨.inl rfl, .inl rfl⟩) (pg_name (i := 1) sc_law_is_weight.nd rfl (Or.inl rfl)))) (fun _ _ _ _ _ => (pts_one (qt_cmp om_notIn (imE i_var (pv 1)) (imE i_str pe_str) (by rfl)))) (fun _ _ _ _ _ => (imE i_var (pv 1))))) (imE i_lst (pe_lst (imA i_nil pa_nil))) (nomark _)))))))) (pss_one (imS i_ret (ps_ret (imE i_bl pe_bl)))) (imSs i_next pss_nil)))
    (pss_one (imS i_ret (ps_ret (imE i_or (pe_or (qe_cmp (om_eq hr.units) (imE i_var (pv 0)) (imE i_str pe_str) (nomark _)) (pe_one (qe_cmp (om_ne hr.units) (qe_ix (imE i_var (pv 0)) (imE i_int pe_int) (fun _ _ => rfl)) (imE i_str pe_str) (nomark _))))))))))
theorem ok_law_is_weight (Z : Env K mg) : ∃ fd, FnOk P w K mg base (L2.CX P w) 1 (ga K "_law_is_weight") fd ["_law_word_here"] (spM K m_law_is_weight) ∧ Binds K fd ["_law_word_here"] [] ∧ PySem.W.keepIn K (.ref (ga K "_law_is_weight")) = true := by
  obtain ⟨fd, F⟩ := Z.c.def_ 7 (d := d_law_is_weight) rfl
  exact ⟨fd, okA_law_is_weight Z F, F.bindsN fun _ _ _ _ _ _ us hl => match us, hl with | [_], _ => rfl, F.kp⟩
theorem sc_law_read : FnScope ["_law_words", "_law_at", "_law_word_here", "_law_names_here", "_law_inner"] ["_law_words", "_law_at"] (defScope s_law_read) := ⟨rfl, rfl, rfl, by decide +kernel, rfl, by decide +kernel, by decide +kernel⟩
theorem bi_law_read {fd : FuncData} (F : FunD K d_law_read.name d_law_read.qual d_law_read.params d_law_read.body d_law_read.scope (d_law_read.dvs K) (d_law_read.kws K) (fAd K d_law_read.at_) fd) : Binds K fd ["_law_words", "_law_at"] [] := F.bindsN fun _ _ _ _ _ _ us hl => match us, hl with | [_, _], _ => rfl
theorem sc_law_several : FnScope ["_law_words", "_law_at", "_law_parts", "_law_sign", "_law_part"] ["_law_words", "_law_at"] (defScope s_law_several) := ⟨rfl, rfl, rfl, by decide +kernel, rfl, by decide +kernel, by decide +kernel⟩
theorem bi_law_several {fd : FuncData} (F : FunD K d_law_several.name d_law_several.qual d_law_several.params d_law_several.body d_law_several.scope (d_law_several.dvs K) (d_law_several.kws K) (fAd K d_law_several.at_) fd) : Binds K fd ["_law_words", "_law_at"] [] := F.bindsN fun _ _ _ _ _ _ us hl => match us, hl with | [_, _], _ => rfl
theorem okA_law_read (d : Nat) (Z : Env K mg) {fd_law_read : FuncData} {fd_law_several : FuncData} (F_law_read : FunD K d_law_read.name d_law_read.qual d_law_read.params d_law_read.body d_law_read.scope (d_law_read.dvs K) (d_law_read.kws K) (fAd K d_law_read.at_) fd_law_read) (F_law_several : FunD K d_law_several.name d_law_several.qual d_law_several.params d_law_several.body d_law_several.scope (d_law_several.dvs K) (d_law_several.kws K) (fAd K d_law_several.at_) fd_law_several) (G_law_read : FnOk P w K mg base (L2.CX P w) (2 + d) (ga K "_law_read") fd_law_read ["_law_words", "_law_at"] (spM K (q_law_read d))) (G_law_several : FnOk P w K mg base (L2.CX P w) (2 + d) (ga K "_law_several") fd_law_several ["_law_words", "_law_at"] (spM K (q_law_several d))) : FnOk P w K mg base (L2.CX P w) (2 + d + 1) (ga K "_law_read") fd_law_read ["_law_words", "_law_at"] (spM K (q_law_read (d + 1))) := by
  have b_law_read := bi_law_read F_law_read
  have k_law_read := F_law_read.kp
  have b_law_several := bi_law_several F_law_several
  have k_law_several := F_law_several.kp
  obtain ⟨fd_law_is_weight, G_law_is_weight, b_law_is_weight, k_law_is_weight⟩ := ok_law_is_weight (P := P) (w := w) (base := base) Z
  obtain ⟨fd_law_names, G_law_names, b_law_names, k_law_names⟩ := ok_law_names (P := P) (w := w) (base := base) Z
  have g__law_is_weight := Z.glo 7 (x := "_law_is_weight") rfl
  have g__law_names := Z.glo 8 (x := "_law_names") rfl
  have g__law_read := Z.glo 9 (x := "_law_read") rfl
  have g__law_several := Z.glo 10 (x := "_law_several") rfl
  have z_int := Z.free 11 (x := "int") rfl
  have z_len := Z.free 2 (x := "len") rfl
  have z_set := Z.free 12 (x := "set") rfl
  have z_tuple := Z.free 13 (x := "tuple") rfl
  have hc : Hc K := Z.x 0 (f := hcB) rfl
  have xc : Xc K := Z.x 1 (f := xcB) rfl
  rw [q_law_read_s]
  refine F_law_read.ok (CX := (L2.CX P w)) sc_law_read (fun vs H Q E h => len_M h) (fun cdv A outer s H vs Q E hr h => ⟨cS K p0 (wE E) (Mo.b_law_read (q_law_read d) (q_law_several d)), ?_, run_M rfl h⟩)
  exact (imSs i_seq (pss_cons (imS i_ifS (ps_if (qt_cmp om_ge (imE i_var (pv 1)) (qe_cb cm_len fun _ q => pe_callB q (by rfl) z_len (by decide +kernel) (imA i_cons (pa_cons (imE i_var (pv 0)) (imA i_nil pa_nil)))) (nomark _)) (pss_one (imS i_ret (ps_ret (imE i_tup (pe_tup (imA i_cons (pa_cons (imE i_non pe_non) (imA i_cons (pa_cons (imE i_var (pv 1)) (imA i_nil pa_nil)))))))))) (imSs i_next pss_nil)))
    (imSs i_seq (pss_cons (imS (i_asgN ⟨.inl rfl, .inl rfl⟩ (fun _ _ _ h => h)) (ps_set (i := 2) sc_law_read.nd rfl (Or.inl rfl) (qe_ix (imE i_var (pv 0)) (imE i_var (pv 1)) (fun _ _ => rfl))))
    (imSs i_seq (pss_cons (imS i_ifS (ps_if (qt_cmp (om_eq hr.units) (imE i_var (pv 2)) (imE i_str pe_str) (nomark _)) (pss_one (imS i_ret (ps_ret (imE i_tup (pe_tup (imA i_cons (pa_cons (imE i_tup (pe_tup (imA i_cons (pa_cons (imE i_str pe_str) (imA i_nil pa_nil))))) (imA i_cons (pa_cons (qe_op om_add (imE i_var (pv 1)) (imE i_int pe_int)) (imA i_nil pa_nil)))))))))) (imSs i_next pss_nil)))
    (imSs i_seq (pss_cons (imS i_ifS (ps_if (PW.pt (imW i_uOr (pw_or (qt_cmp (om_eq hr.units) (imE i_var (pv 2)) (imE i_str pe_str) (nomark _)) (pw_or1 (qt_cmp (om_eq hr.units) (imE i_var (pv 2)) (imE i_str pe_str) (nomark _)))))) (imSs i_seq (pss_cons (imS (i_asgN ⟨.inl rfl, .inl rfl⟩ (fun _ _ _ h => h)) (ps_set (i := 3) sc_law_read.nd rfl (Or.inl rfl) (imE i_call (pe_callS G_law_names (hr.mono (by omega)) (by exact rfl) g__law_names k_law_names b_law_names (fun σ => passAt (takes_of rfl rfl rfl rfl) σ) (imA i_cons (pa_cons (imE i_var (pv 0)) (imA i_cons (pa_cons (qe_op om_add (imE i_var (pv 1)) (imE i_int pe_int)) (imA i_nil pa_nil)))))))))
    (imSs i_seq (pss_cons (imS i_ifS (ps_if (PW.pt (imW i_uOr (pw_or (qt_cmp (om_eqE hr.units) (imE i_var (pv 3)) (imE i_lst (pe_lst (imA i_nil pa_nil))) (nomark _)) (pw_or1 (qt_cmp om_lt (imE i_lenSet (pe_lenSetG rfl (by rfl) z_len (by rfl) z_set (imE i_var (pv 3)))) (qe_cb cm_len fun _ q => pe_callB q (by rfl) z_len (by decide +kernel) (imA i_cons (pa_cons (imE i_var (pv 3)) (imA i_nil pa_nil)))) (nomark _)))))) (pss_one (imS i_ret (ps_ret (imE i_tup (pe_tup (imA i_cons (pa_cons (imE i_non pe_non) (imA i_cons (pa_cons (imE i_var (pv 1)) (imA i_nil pa_nil)))))))))) (imSs i_next pss_nil)))
    (pss_one (imS i_ret (ps_ret (imE i_tup (pe_tup (imA i_cons (pa_cons (imE i_tup (pe_tup (imA i_cons (pa_cons (imE i_var (pv 2)) (imA i_cons (pa_cons (qe_cb cm_tup fun _ q => pe_callTy q (by rfl) z_tuple (by decide +kernel) (imA i_cons (pa_cons (imE i_var (pv 3)) (imA i_nil pa_nil)))) (imA i_nil pa_nil))))))) (imA i_cons (pa_cons (qe_op om_add (qe_op om_add (imE i_var (pv 1)) (imE i_int pe_int)) (qe_cb cm_len fun _ q => pe_callB q (by rfl) z_len (by decide +kernel) (imA i_cons (pa_cons (imE i_var (pv 3)) (imA i_nil pa_nil))))) (imA i_nil pa_nil)))))))))))))) (imSs i_next pss_nil)))
    (imSs i_seq (pss_cons (imS i_ifS (ps_if (PW.pt (imW i_uAnd (pw_and (qt_cmp (om_eq hr.units) (imE i_var (pv 2)) (imE i_str pe_str) (nomark _)) (imW i_uAnd (pw_and (qt_cmp om_lt (qe_op om_add (imE i_var (pv 1)) (imE i_int pe_int)) (qe_cb cm_len fun _ q => pe_callB q (by rfl) z_len (by decide +kernel) (imA i_cons (pa_cons (imE i_var (pv 0)) (imA i_nil pa_nil)))) (nomark _)) (pw_and1 (imT i_tru (pt_truth (imE i_call (pe_callS G_law_is_weight (hr.mono (by omega)) (by exact rfl) g__law_is_weight k_law_is_weight b_law_is_weight (fun σ => passAt (takes_of rfl rfl rfl rfl) σ) (imA i_cons (pa_cons (qe_ix (imE i_var (pv 0)) (qe_op om_add (imE i_var (pv 1)) (imE i_int pe_int)) (fun _ _ => rfl)) (imA i_nil pa_nil))))) (by intro _; rfl))))))))) (pss_one (imS i_ret (ps_ret (imE i_tup (pe_tup (imA i_cons (pa_cons (imE i_tup (pe_tup (imA i_cons (pa_cons (imE i_str pe_str) (imA i_cons (pa_cons (qe_cb cm_intT fun _ q => pe_callTy q (by rfl) z_int (by decide +kernel) (imA i_cons (pa_cons (qe_ix (imE i_var (pv 0)) (qe_op om_add (imE i_var (pv 1)) (imE i_int pe_int)) (fun _ _ => rfl)) (imA i_nil pa_nil)))) (imA i_nil pa_nil))))))) (imA i_cons (pa_cons (qe_op om_add (imE i_var (pv 1)) (imE i_int pe_int)) (imA i_nil pa_nil)))))))))) (imSs i_next pss_nil)))
    (imSs i_seq (pss_cons (imS i_ifS (ps_if (qt_cmp (om_eq hr.units) (imE i_var (pv 2)) (imE i_str pe_str) (nomark _)) (imSs i_seq (pss_cons (imS i_asg (ps_asg (imE i_call (pe_callS G_law_read (hr.mono (by omega)) (by exact rfl) g__law_read k_law_read b_law_read (fun σ => passAt (takes_of rfl rfl rfl rfl) σ) (imA i_cons (pa_cons (imE i_var (pv 0)) (imA i_cons (pa_cons (qe_op om_add (imE i_var (pv 1)) (imE i_int pe_int)) (imA i_nil pa_nil))))))) (imG i_hTup (pg_tup (by rfl) (imGs (i_hCons (ws := [4])) (pgs_cons (imG (i_hNm ⟨.inl rfl, .inl rfl⟩) (pg_name (i := 4) sc_law_read.nd rfl (Or.inl rfl))) (imGs (i_hCons (ws := [1])) (pgs_cons (imG (i_hNm ⟨.inl rfl, .inl rfl⟩) (pg_name (i := 1) sc_law_read.nd rfl (Or.inl rfl))) (imGs i_hNil pgs_nil)))))))))
    (imSs i_seq (pss_cons (imS i_ifS (ps_if (qt_cmp om_isN (imE i_var (pv 4)) (imE i_non pe_non) (nomark _)) (pss_one (imS i_ret (ps_ret (imE i_tup (pe_tup (imA i_cons (pa_cons (imE i_non pe_non) (imA i_cons (pa_cons (imE i_var (pv 1)) (imA i_nil pa_nil)))))))))) (imSs i_next pss_nil)))
    (pss_one (imS i_ret (ps_ret (imE i_tup (pe_tup (imA i_cons (pa_cons (imE i_tup (pe_tup (imA i_cons (pa_cons (imE i_str pe_str) (imA i_cons (pa_cons (imE i_var (pv 4)) (imA i_nil pa_nil))))))) (imA i_cons (pa_cons (imE i_var (pv 1)) (imA i_nil pa_nil)))))))))))))) (imSs i_next pss_nil)))
    (imSs i_seq (pss_cons (imS i_ifS (ps_if (qt_cmp (om_eq hr.units) (imE i_var (pv 2)) (imE i_str pe_str) (nomark _)) (pss_one (imS i_ret (ps_ret (imE i_call (pe_callS G_law_several (hr.mono (by omega)) (by exact rfl) g__law_several k_law_several b_law_several (fun σ => passAt (takes_of rfl rfl rfl rfl) σ) (imA i_cons (pa_cons (imE i_var (pv 0)) (imA i_cons (pa_cons (qe_op om_add (imE i_var (pv 1)) (imE i_int pe_int)) (imA i_nil pa_nil)))))))))) (imSs i_next pss_nil)))
    (pss_one (imS i_ret (ps_ret (imE i_tup (pe_tup (imA i_cons (pa_cons (imE i_non pe_non) (imA i_cons (pa_cons (imE i_var (pv 1)) (imA i_nil pa_nil))))))))))))))))))))))))
theorem okA_law_several (d : Nat) (Z : Env K mg) {fd_law_read : FuncData} {fd_law_several : FuncData} (F_law_read : FunD K d_law_read.name d_law_read.qual d_law_read.params d_law_read.body d_law_read.scope (d_law_read.dvs K) (d_law_read.kws K) (fAd K d_law_read.at_) fd_law_read) (F_law_several : FunD K d_law_several.name d_law_several.qual d_law_several.params d_law_several.body d_law_several.scope (d_law_several.dvs K) (d_law_several.kws K) (fAd K d_law_several.at_) fd_law_several) (G_law_read : FnOk P w K mg base (L2.CX P w) (2 + d) (ga K "_law_read") fd_law_read ["_law_words", "_law_at"] (spM K (q_law_read d))) (G_law_several : FnOk P w K mg base (L2.CX P w) (2 + d) (ga K "_law_several") fd_law_several ["_law_words", "_law_at"] (spM K (q_law_several d))) : FnOk P w K mg base (L2.CX P w) (2 + d + 1) (ga K "_law_several") fd_law_several ["_law_words", "_law_at"] (spM K (q_law_several (d + 1))) := by
  have b_law_read := bi_law_read F_law_read
  have k_law_read := F_law_read.kp
  have b_law_several := bi_law_several F_law_several
  have k_law_several := F_law_several.kp
  have g__law_read := Z.glo 9 (x := "_law_read") rfl
  have z_int := Z.free 11 (x := "int") rfl
  have z_len := Z.free 2 (x := "len") rfl
  have z_tuple := Z.free 13 (x := "tuple") rfl
  have hc : Hc K := Z.x 0 (f := hcB) rfl
  have xc : Xc K := Z.x 1 (f := xcB) rfl
  rw [q_law_several_s]
  refine F_law_several.ok (CX := (L2.CX P w)) sc_law_several (fun vs H Q E h => len_M h) (fun cdv A outer s H vs Q E hr h => ⟨cS K p0 (wE E) (Mo.b_law_several (q_law_read d) (q_law_several d)), ?_, run_M rfl h⟩)
  exact (imSs i_seq (pss_cons (imS (i_asgN ⟨.inl rfl, .inl rfl⟩ (fun _ _ _ h => h)) (ps_set (i := 2) sc_law_several.nd rfl (Or.inl rfl) (imE i_lst (pe_lst (imA i_nil pa_nil)))))
    (imSs i_seq (pss_cons (imS (i_asgN ⟨.inl rfl, .inl rfl⟩ (fun _ _ _ h => h)) (ps_set (i := 3) sc_law_several.nd rfl (Or.inl rfl) (imE i_non pe_non)))
    (imSs i_seq (pss_cons (imS i_while (ps_while (passes_of rfl) (imT i_tru (pt_truth (imE i_bl pe_bl) (by intro _; rfl)))
    (imSs i_seq (pss_cons (imS i_asg (ps_asg (imE i_call (pe_callS G_law_read (hr.mono (by omega)) (by exact rfl) g__law_read k_law_read b_law_read (fun σ => passAt (takes_of rfl rfl rfl rfl) σ) (imA i_cons (pa_cons (imE i_var (pv 0)) (imA i_cons (pa_cons (imE i_var (pv 1)) (imA i_nil pa_nil))))))) (imG i_hTup (pg_tup (by rfl) (imGs (i_hCons (ws := [4])) (pgs_cons (imG (i_hNm ⟨.inl rfl, .inl rfl⟩) (pg_name (i := 4) sc_law_several.nd rfl (Or.inl rfl))) (imGs (i_hCons (ws := [1])) (pgs_cons (imG (i_hNm ⟨.inl rfl, .inl rfl⟩) (pg_name (i := 1) sc_law_several.nd rfl (Or.inl rfl))) (imGs i_hNil pgs_nil)))))))))
    (imSs i_seq (pss_cons (imS i_ifS (ps_if (PW.pt (imW i_uOr (pw_or (qt_cmp om_isN (imE i_var (pv 4)) (imE i_non pe_non) (nomark _)) (pw_or1 (qt_cmp om_ge (imE i_var (pv 1)) (qe_cb cm_len fun _ q => pe_callB q (by rfl) z_len (by decide +kernel) (imA i_cons (pa_cons (imE i_var (pv 0)) (imA i_nil pa_nil)))) (nomark _)))))) (pss_one (imS i_ret (ps_ret (imE i_tup (pe_tup (imA i_cons (pa_cons (imE i_non pe_non) (imA i_cons (pa_cons (imE i_var (pv 1)) (imA i_nil pa_nil)))))))))) (imSs i_next pss_nil)))
    (imSs i_seq (pss_cons (imS i_drop (ps_expr (imE i_app (pe_bm PySem.F.plainAttrs_list PySem.F.slot_list_append PySem.F.type_list_append mt_append (imE i_var (pv 2)) (pa_cons (imE i_var (pv 4)) pa_nil)))))
    (imSs i_seq (pss_cons (imS i_ifS (ps_if (qt_cmp (om_eq hr.units) (qe_ix (imE i_var (pv 0)) (imE i_var (pv 1)) (fun _ _ => rfl)) (imE i_str pe_str) (nomark _)) (pss_one (imS i_brk ps_break)) (imSs i_next pss_nil)))
    (imSs i_seq (pss_cons (imS i_ifS (ps_if (PW.pt (imW i_uOr (pw_or (qt_cmp om_notIn (qe_ix (imE i_var (pv 0)) (imE i_var (pv 1)) (fun _ _ => rfl)) (imE i_lst (pe_lst (imA i_cons (pa_cons (imE i_str pe_str) (imA i_cons (pa_cons (imE i_str pe_str) (imA i_nil pa_nil))))))) (by rfl)) (pw_or1 (PW.pt (imW i_uAnd (pw_and (qt_cmp om_notN (imE i_var (pv 3)) (imE i_non pe_non) (nomark _)) (pw_and1 (qt_cmp (om_ne hr.units) (qe_ix (imE i_var (pv 0)) (imE i_var (pv 1)) (fun _ _ => rfl)) (imE i_var (pv 3)) (nomark _)))))))))) (pss_one (imS i_ret (ps_ret (imE i_tup (pe_tup (imA i_cons (pa_cons (imE i_non pe_non) (imA i_cons (pa_cons (imE i_var (pv 1)) (imA i_nil pa_nil)))))))))) (imSs i_next pss_nil)))
    (imSs i_seq (pss_cons (imS (i_asgN ⟨.inl rfl, .inl rfl⟩ (fun _ _ _ h => h)) (ps_set (i := 3) sc_law_several.nd rfl (Or.inl rfl) (qe_ix (imE i_var (pv 0)) (imE i_var (pv 1)) (fun _ _ => rfl))))
    (pss_one (imS (i_asgN ⟨.inl rfl, .inl rfl⟩ (fun _ _ _ h => h)) (ps_set (i := 1) sc_law_several.nd rfl (Or.inl rfl) (qe_op om_add (imE i_var (pv 1)) (imE i_int pe_int)))))))))))))))))))
    (imSs i_seq (pss_cons (imS i_ifS (ps_if (qt_cmp om_isN (imE i_var (pv 3)) (imE i_non pe_non) (nomark _)) (pss_one (imS i_ret (ps_ret (imE i_tup (pe_tup (imA i_cons (pa_cons (imE i_non pe_non) (imA i_cons (pa_cons (imE i_var (pv 1)) (imA i_nil pa_nil)))))))))) (imSs i_next pss_nil)))
    (pss_one (imS i_ret (ps_ret (imE i_tup (pe_tup (imA i_cons (pa_cons (imE i_tup (pe_tup (imA i_cons (pa_cons (qe_ix (imE i_lst (pe_lst (imA i_cons (pa_cons (imE i_str pe_str) (imA i_cons (pa_cons (imE i_str pe_str) (imA i_nil pa_nil))))))) (qe_cb cm_int fun _ q => pe_callTy q (by rfl) z_int (by decide +kernel) (imA i_cons (pa_cons (qe_cmp (om_eq hr.units) (imE i_var (pv 3)) (imE i_str pe_str) (nomark _)) (imA i_nil pa_nil)))) (fun _ _ => rfl)) (imA i_cons (pa_cons (qe_cb cm_tup fun _ q => pe_callTy q (by rfl) z_tuple (by decide +kernel) (imA i_cons (pa_cons (imE i_var (pv 2)) (imA i_nil pa_nil)))) (imA i_nil pa_nil))))))) (imA i_cons (pa_cons (qe_op om_add (imE i_var (pv 1)) (imE i_int pe_int)) (imA i_nil pa_nil))))))))))))))))))
theorem rec_law_read (Z : Env K mg) {fd_law_read : FuncData} {fd_law_several : FuncData} (F_law_read : FunD K d_law_read.name d_law_read.qual d_law_read.params d_law_read.body d_law_read.scope (d_law_read.dvs K) (d_law_read.kws K) (fAd K d_law_read.at_) fd_law_read) (F_law_several : FunD K d_law_several.name d_law_several.qual d_law_several.params d_law_several.body d_law_several.scope (d_law_several.dvs K) (d_law_several.kws K) (fAd K d_law_several.at_) fd_law_several) : ∀ d : Nat, FnOk P w K mg base (L2.CX P w) (2 + d) (ga K "_law_read") fd_law_read ["_law_words", "_law_at"] (spM K (q_law_read d)) ∧ FnOk P w K mg base (L2.CX P w) (2 + d) (ga K "_law_several") fd_law_several ["_law_words", "_law_at"] (spM K (q_law_several d))
  | 0 => ⟨vac_ok, vac_ok⟩
  | d + 1 => by
    obtain ⟨G_law_read, G_law_several⟩ := rec_law_read Z F_law_read F_law_several d
    exact ⟨okA_law_read d Z F_law_read F_law_several G_law_read G_law_several, okA_law_several d Z F_law_read F_law_several G_law_read G_law_several⟩
theorem ok_law_read (Z : Env K mg) : ∃ fd, FnOk P w K mg base (L2.CX P w) 92 (ga K "_law_read") fd ["_law_words", "_law_at"] (spM K m_law_read) ∧ Binds K fd ["_law_words", "_law_at"] [] ∧ PySem.W.keepIn K (.ref (ga K "_law_read")) = true := by
  obtain ⟨fd_law_read, F_law_read⟩ := Z.c.def_ 8 (d := d_law_read) rfl
  obtain ⟨fd_law_several, F_law_several⟩ := Z.c.def_ 9 (d := d_law_several) rfl
  exact ⟨fd_law_read, (rec_law_read Z F_law_read F_law_several 90).1, bi_law_read F_law_read, F_law_read.kp⟩
theorem ok_law_several (Z : Env K mg) : ∃ fd, FnOk P w K mg base (L2.CX P w) 92 (ga K "_law_several") fd ["_law_words", "_law_at"] (spM K m_law_several) ∧ Binds K fd ["_law_words", "_law_at"] [] ∧ PySem.W.keepIn K (.ref (ga K "_law_several")) = true := by
  obtain ⟨fd_law_read, F_law_read⟩ := Z.c.def_ 8 (d := d_law_read) rfl
  obtain ⟨fd_law_several, F_law_several⟩ := Z.c.def_ 9 (d := d_law_several) rfl
  exact ⟨fd_law_several, (rec_law_read Z F_law_read F_law_several 90).2, bi_law_several F_law_several, F_law_several.kp⟩
theorem sc_NoText_init : FnScope ["self", "text", "line"] ["self", "text", "line"] (defScope s_NoText_init) := ⟨rfl, rfl, rfl, by decide +kernel, rfl, by decide +kernel, by decide +kernel⟩
theorem okA_NoText_init (Z : Env K mg) {fd : FuncData} (F : FunD K d_NoText_init.name d_NoText_init.qual d_NoText_init.params d_NoText_init.body d_NoText_init.scope (d_NoText_init.dvs K) (d_NoText_init.kws K) (fAd K d_NoText_init.at_) fd) : FnOk P w K mg base CX0 1 (ma K (ga K "NoText") "__init__") fd ["self", "text", "line"] (spX K "NoText" "line" 2 3) := by
  have g_BellError := Z.glo 14 (x := "BellError") rfl
  have hc : Hc K := Z.x 0 (f := hcB) rfl
  have xc : Xc K := Z.x 1 (f := xcB) rfl
  have be_BellError := beB_ok (Z.x 2 (f := fun K => beB K (ga K "BellError")) rfl)
  refine F.ok (CX := CX0) sc_NoText_init (fun vs H Q E h => len_X h) (fun cdv A outer s H vs Q E hr h => ⟨_, PSs.nox ?_, run_X (i := 1) (xc.oex (C := "NoText") (f := "line") (by decide +kernel)).c (xc.na (by decide +kernel)) (by decide) h⟩)
  exact (pss_cons (ps_expr (pe_beinit be_BellError (by exact rfl) g_BellError (pa_cons (pv 0) (pa_cons (pv 1) pa_nil)))) (pss_one (ps_ost (pv 0) (pv 2))))
theorem okH_NoText_init (Z : Env K mg) {fd : FuncData} (F : FunD K d_NoText_init.name d_NoText_init.qual d_NoText_init.params d_NoText_init.body d_NoText_init.scope (d_NoText_init.dvs K) (d_NoText_init.kws K) (fAd K d_NoText_init.at_) fd) : L2H.FnH P w K mg base CX0 1 (ma K (ga K "NoText") "__init__") fd ["self", "text", "line"] (spX K "NoText" "line" 2 3) := by
  have g_BellError := Z.glo 14 (x := "BellError") rfl
  have hc : Hc K := Z.x 0 (f := hcB) rfl
  have xc : Xc K := Z.x 1 (f := xcB) rfl
  have be_BellError := beB_ok (Z.x 2 (f := fun K => beB K (ga K "BellError")) rfl)
  refine Ps.FunD.okH (CX := CX0) F sc_NoText_init (fun vs H Q E h => len_X h) (fun cdv A outer s H vs Q E p hot hr h => ⟨_, PSs.nox ?_, run_X (i := 1) (xc.oex (C := "NoText") (f := "line") (by decide +kernel)).c (xc.na (by decide +kernel)) (by decide) h⟩)
  exact (pss_cons (ps_expr (pe_beinit be_BellError (by exact rfl) g_BellError (pa_cons (pv 0) (pa_cons (pv 1) pa_nil)))) (pss_one (ps_ost (pv 0) (pv 2))))
theorem bn_NoText_init_2 {K : PySem.W.Frag} {fd : FuncData} (F : FunD K d_NoText_init.name d_NoText_init.qual d_NoText_init.params d_NoText_init.body d_NoText_init.scope (d_NoText_init.dvs K) (d_NoText_init.kws K) (fAd K d_NoText_init.at_) fd) : ∃ ds, Vals [(V.int 0)] ds ∧ Binds K fd ["self", "text", "line"] ds :=
  F.binds1 2 0 (List.cons_ne_nil _ _) rfl fun _ _ _ _ _ _ _ us its hu hi => match us, hu, its, hi with | [_, _], _, [_], _ => ⟨_, rfl, rfl⟩
theorem ok_NoText_init (Z : Env K mg) : ∃ fd, FnOk P w K mg base CX0 1 (ma K (ga K "NoText") "__init__") fd ["self", "text", "line"] (spX K "NoText" "line" 2 3) ∧ FunD K d_NoText_init.name d_NoText_init.qual d_NoText_init.params d_NoText_init.body d_NoText_init.scope (d_NoText_init.dvs K) (d_NoText_init.kws K) (fAd K d_NoText_init.at_) fd ∧ PySem.W.keepIn K (.ref (ma K (ga K "NoText") "__init__")) = true := by
  obtain ⟨fd, F⟩ := Z.c.def_ 10 (d := d_NoText_init) rfl
  exact ⟨fd, okA_NoText_init Z F, F, F.kp⟩
theorem sc_text_unless : FnScope ["good"] ["good"] (defScope s_text_unless) := ⟨rfl, rfl, rfl, by decide +kernel, rfl, by decide +kernel, by decide +kernel⟩
theorem okA_text_unless (Z : Env K mg) {fd : FuncData} (F : FunD K d_text_unless.name d_text_unless.qual d_text_unless.params d_text_unless.body d_text_unless.scope (d_text_unless.dvs K) (d_text_unless.kws K) (fAd K d_text_unless.at_) fd) : FnOk P w K mg base (CXM K P w) 3 (ga K "text_unless") fd ["good"] (spM K m_text_unless) := by
  obtain ⟨fd_NoText_init, G_NoText_init, b_NoText_init, k_NoText_init⟩ := ok_NoText_init (P := P) (w := w) (base := base) Z
  obtain ⟨ds_NoText_init_2, dv_NoText_init_2, bb_NoText_init_2⟩ := bn_NoText_init_2 b_NoText_init
  have g_NoText := Z.glo 15 (x := "NoText") rfl
  have hc : Hc K := Z.x 0 (f := hcB) rfl
  have xc : Xc K := Z.x 1 (f := xcB) rfl
  refine F.ok (CX := (CXM K P w)) sc_text_unless (fun vs H Q E h => len_M h) (fun cdv A outer s H vs Q E hr h => ⟨cS K p0 (wE E) b_text_unless, ?_, run_M rfl h⟩)
  exact (pss_one (imS i_ifS (ps_if (imT i_uNot (pt_not (imT i_tru (pt_truth (imE i_var (pv 0)) (by intro _; rfl))))) (pss_one (qs_raiseOM (C := "NoText") (by decide +kernel) (by decide) (rvc1 rv_int rvc0) rfl (takesM_of rfl rfl rfl rfl) (pmk_oex (xc.oex (C := "NoText") (f := "line") (by decide +kernel)).c (xc.oex (C := "NoText") (f := "line") (by decide +kernel)).i (xc.oex (C := "NoText") (f := "line") (by decide +kernel)).t G_NoText_init (hr.mono (by decide)) bb_NoText_init_2 dv_NoText_init_2 pass0 (by exact rfl) g_NoText (imA i_cons (pa_cons (imE i_str pe_str) (imA i_nil pa_nil)))))) (imSs i_next pss_nil))))
theorem ok_text_unless (Z : Env K mg) : ∃ fd, FnOk P w K mg base (CXM K P w) 3 (ga K "text_unless") fd ["good"] (spM K m_text_unless) ∧ Binds K fd ["good"] [] ∧ PySem.W.keepIn K (.ref (ga K "text_unless")) = true := by
  obtain ⟨fd, F⟩ := Z.c.def_ 11 (d := d_text_unless) rfl
  exact ⟨fd, okA_text_unless Z F, F.bindsN fun _ _ _ _ _ _ us hl => match us, hl with | [_], _ => rfl, F.kp⟩
theorem sc_Words_init : FnScope ["self", "text"] ["self", "text"] (defScope s_Words_init) := ⟨rfl, rfl, rfl, by decide +kernel, rfl, by decide +kernel, by decide +kernel⟩
theorem okA_Words_init (Z : Env K mg) {fd : FuncData} (F : FunD K d_Words_init.name d_Words_init.qual d_Words_init.params d_Words_init.body d_Words_init.scope (d_Words_init.dvs K) (d_Words_init.kws K) (fAd K d_Words_init.at_) fd) : FnOk P w K mg base (L2.CX P w) 4 (ma K (ga K "Words") "__init__") fd ["self", "text"] (spM K m_Words_init) := by
  obtain ⟨fd_text_unless, G_text_unless, b_text_unless, k_text_unless⟩ := ok_text_unless (P := P) (w := w) (base := base) Z
  have g_text_unless := Z.glo 16 (x := "text_unless") rfl
  have z_isinstance := Z.free 17 (x := "isinstance") rfl
  have z_str := Z.free 18 (x := "str") rfl
  have hc : Hc K := Z.x 0 (f := hcB) rfl
  have xc : Xc K := Z.x 1 (f := xcB) rfl
  refine F.ok (CX := (L2.CX P w)) sc_Words_init (fun vs H Q E h => len_M h) (fun cdv A outer s H vs Q E hr h => ⟨cS K p0 (wE E) b_Words_init, ?_, run_M rfl h⟩)
  exact (imSs i_seq (pss_cons (imS i_drop (ps_expr (imE i_call (pe_callS G_text_unless (hr.mono (by decide)) (by exact rfl) g_text_unless k_text_unless b_text_unless (fun σ => passM (TakesM.of (takes_of rfl rfl rfl rfl)) σ) (imA i_cons (pa_cons (qe_cb (cm_isi hc) fun _ q => pe_callB q (by rfl) z_isinstance (by decide +kernel) (imA i_cons (pa_cons (imE i_var (pv 1)) (imA i_cons (pa_cons (imE i_ty (pe_bltn (v := .ty "str") (by rfl) z_str (by decide +kernel) rfl)) (imA i_nil pa_nil)))))) (imA i_nil pa_nil)))))))
    (imSs i_seq (pss_cons (imS (i_set hc) (ps_fld (imE i_var (pv 0)) (imE i_split (pe_split (imE i_var (pv 1)) (imE i_str pe_str))) rfl))
    (pss_one (imS (i_set hc) (ps_fld (imE i_var (pv 0)) (imE i_int pe_int) rfl)))))))
theorem ok_Words_init (Z : Env K mg) : ∃ fd, FnOk P w K mg base (L2.CX P w) 4 (ma K (ga K "Words") "__init__") fd ["self", "text"] (spM K m_Words_init) ∧ Binds K fd ["self", "text"] [] ∧ PySem.W.keepIn K (.ref (ma K (ga K "Words") "__init__")) = true := by
  obtain ⟨fd, F⟩ := Z.c.def_ 12 (d := d_Words_init) rfl
  exact ⟨fd, okA_Words_init Z F, F.bindsN fun _ _ _ _ _ _ us hl => match us, hl with | [_, _], _ => rfl, F.kp⟩
theorem sc_Words_is_over : FnScope ["self"] ["self"] (defScope s_Words_is_over) := ⟨rfl, rfl, rfl, by decide +kernel, rfl, by decide +kernel, by decide +kernel⟩
theorem okA_Words_is_over (Z : Env K mg) {fd : FuncData} (F : FunD K d_Words_is_over.name d_Words_is_over.qual d_Words_is_over.params d_Words_is_over.body d_Words_is_over.scope (d_Words_is_over.dvs K) (d_Words_is_over.kws K) (fAd K d_Words_is_over.at_) fd) : FnOk P w K mg base (CXM K P w) 1 (ma K (ga K "Words") "is_over") fd ["self"] (spM K m_Words_is_over) := by
  have z_len := Z.free 2 (x := "len") rfl
  have hc : Hc K := Z.x 0 (f := hcB) rfl
  have xc : Xc K := Z.x 1 (f := xcB) rfl
  refine F.ok (CX := (CXM K P w)) sc_Words_is_over (fun vs H Q E h => len_M h) (fun cdv A outer s H vs Q E hr h => ⟨cS K p0 (wE E) b_Words_is_over, ?_, run_M rfl h⟩)
  exact (pss_one (imS i_ret (ps_ret (qe_cmp (om_eq hr.units) (imE (i_fld hc) (pe_fld (imE i_var (pv 0)) rfl)) (qe_cb cm_len fun _ q => pe_callB q (by rfl) z_len (by decide +kernel) (imA i_cons (pa_cons (imE (i_fld hc) (pe_fld (imE i_var (pv 0)) rfl)) (imA i_nil pa_nil)))) (nomark _)))))
theorem ok_Words_is_over (Z : Env K mg) : ∃ fd, FnOk P w K mg base (CXM K P w) 1 (ma K (ga K "Words") "is_over") fd ["self"] (spM K m_Words_is_over) ∧ Binds K fd ["self"] [] ∧ PySem.W.keepIn K (.ref (ma K (ga K "Words") "is_over")) = true := by
  obtain ⟨fd, F⟩ := Z.c.def_ 13 (d := d_Words_is_over) rfl
  exact ⟨fd, okA_Words_is_over Z F, F.bindsN fun _ _ _ _ _ _ us hl => match us, hl with | [_], _ => rfl, F.kp⟩
theorem sc_Words_end : FnScope ["self"] ["self"] (defScope s_Words_end) := ⟨rfl, rfl, rfl, by decide +kernel, rfl, by decide +kernel, by decide +kernel⟩
theorem okA_Words_end (Z : Env K mg) {fd : FuncData} (F : FunD K d_Words_end.name d_Words_end.qual d_Words_end.params d_Words_end.body d_Words_end.scope (d_Words_end.dvs K) (d_Words_end.kws K) (fAd K d_Words_end.at_) fd) : FnOk P w K mg base (L2.CX P w) 4 (ma K (ga K "Words") "end") fd ["self"] (spM K m_Words_end) := by
  obtain ⟨fd_Words_is_over, G_Words_is_over, b_Words_is_over, k_Words_is_over⟩ := ok_Words_is_over (P := P) (w := w) (base := base) Z
  obtain ⟨fd_text_unless, G_text_unless, b_text_unless, k_text_unless⟩ := ok_text_unless (P := P) (w := w) (base := base) Z
  have g_text_unless := Z.glo 16 (x := "text_unless") rfl
  have hc : Hc K := Z.x 0 (f := hcB) rfl
  have xc : Xc K := Z.x 1 (f := xcB) rfl
  have c_Words := hc.cls (C := "Words") (by decide +kernel)
  have h_Words_is_over := meth_ok (Z.c.fact 19 (f := .meth "Words" "is_over") rfl)
  refine F.ok (CX := (L2.CX P w)) sc_Words_end (fun vs H Q E h => len_M h) (fun cdv A outer s H vs Q E hr h => ⟨cS K p0 (wE E) b_Words_end, ?_, run_M rfl h⟩)
  exact (pss_one (imS i_drop (ps_expr (imE i_call (pe_callS G_text_unless (hr.mono (by decide)) (by exact rfl) g_text_unless k_text_unless b_text_unless (fun σ => passM (TakesM.of (takes_of rfl rfl rfl rfl)) σ) (imA i_cons (pa_cons (imE (i_meth0 (m := "is_over") (allF (Ns := ["Words"]) rfl (by decide +kernel))) (qe_altC (C := "Words") (qe_meth0 (imE i_var (pv 0)) c_Words h_Words_is_over G_Words_is_over (hr.mono (by decide)) b_Words_is_over (fun σ => passM (TakesM.of (takes_of rfl rfl rfl rfl)) σ)) qe_altN)) (imA i_nil pa_nil))))))))
theorem ok_Words_end (Z : Env K mg) : ∃ fd, FnOk P w K mg base (L2.CX P w) 4 (ma K (ga K "Words") "end") fd ["self"] (spM K m_Words_end) ∧ Binds K fd ["self"] [] ∧ PySem.W.keepIn K (.ref (ma K (ga K "Words") "end")) = true := by
  obtain ⟨fd, F⟩ := Z.c.def_ 14 (d := d_Words_end) rfl
  exact ⟨fd, okA_Words_end Z F, F.bindsN fun _ _ _ _ _ _ us hl => match us, hl with | [_], _ => rfl, F.kp⟩
theorem sc_Several_init : FnScope ["self", "fits", "fit"] ["self", "fits"] (defScope s_Several_init) := ⟨rfl, rfl, rfl, by decide +kernel, rfl, by decide +kernel, by decide +kernel⟩
theorem okA_Several_init (Z : Env K mg) {fd : FuncData} (F : FunD K d_Several_init.name d_Several_init.qual d_Several_init.params d_Several_init.body d_Several_init.scope (d_Several_init.dvs K) (d_Several_init.kws K) (fAd K d_Several_init.at_) fd) : FnOk P w K mg base (CXM K P w) 1 (ma K (ga K "Several") "__init__") fd ["self", "fits"] (spI K ["fits"] m_Several_init) := by
  have g_Fit := Z.glo 20 (x := "Fit") rfl
  have g_NoFit := Z.glo 21 (x := "NoFit") rfl
  have z_all := Z.free 22 (x := "all") rfl
  have z_isinstance := Z.free 17 (x := "isinstance") rfl
  have z_len := Z.free 2 (x := "len") rfl
  have z_list := Z.free 3 (x := "list") rfl
  have hc : Hc K := Z.x 0 (f := hcB) rfl
  have xc : Xc K := Z.x 1 (f := xcB) rfl
  have x_NoFit := exc_ok (Z.c.fact 23 (f := .exc "NoFit") rfl)
  refine F.ok (CX := (CXM K P w)) sc_Several_init (fun vs H Q E h => len_I h) (fun cdv A outer s H vs Q E hr h => ?_)
  obtain ⟨x, dx, C, hL, q⟩ := run_I (N := ["self", "fits", "fit"]) rfl (by decide) h
  refine ⟨cS K ⟨none, 0, some (x, dx, C)⟩ (wE E) b_Several_init, ?_, q⟩
  exact (imSs i_seq (pss_cons (imS i_ifS (ps_if (PW.pt (imW i_uOr (pw_or (imT i_uNot (pt_not (imT i_tru (pt_truth (qe_cb (cm_isi hc) fun _ q => pe_callB q (by rfl) z_isinstance (by decide +kernel) (imA i_cons (pa_cons (imE i_var (pv 1)) (imA i_cons (pa_cons (imE i_ty (pe_bltn (v := .ty "list") (by rfl) z_list (by decide +kernel) rfl)) (imA i_nil pa_nil)))))) (by intro _; rfl))))) (imW i_uOr (pw_or (qt_cmp om_lt (qe_cb cm_len fun _ q => pe_callB q (by rfl) z_len (by decide +kernel) (imA i_cons (pa_cons (imE i_var (pv 1)) (imA i_nil pa_nil)))) (imE i_int pe_int) (nomark _)) (pw_or1 (imT i_uNot (pt_not (imT i_tru (pt_truth (qe_cb (cm_all rfl) fun _ q => pe_callB q (by rfl) z_all (by decide +kernel) (imA i_cons (pa_cons (imE (i_lc (fun _ h => List.mem_singleton.mp h ▸ ⟨.inr (by decide), .inl rfl⟩) (fun _ h => h)) (pe_lc (own := [("fit", 2)]) rfl sc_Several_init.nd (qi_D (imE i_var (pv 1))) (blkOk_by (own := [("fit", 2)]) (N := ["self", "fits", "fit"]) (sc := defScope s_Several_init) (by decide +kernel)) (fun _ _ _ _ _ => (imG (i_hNm ⟨.inr (by decide), .inl rfl⟩) (pg_name (i := 2) sc_Several_init.nd rfl (Or.inl rfl)))) (fun _ _ _ _ _ => (imTs i_uYes pts_nil)) (fun _ _ _ _ _ => (qe_cb (cm_isi hc) fun _ q => pe_callB q (by rfl) z_isinstance (by decide +kernel) (imA i_cons (pa_cons (imE i_var (pv 2)) (imA i_cons (pa_cons (imE i_cls (pe_glob rfl g_Fit rfl)) (imA i_nil pa_nil))))))))) (imA i_nil pa_nil)))) (by intro _; rfl))))))))))) (pss_one (qs_raiseM (C := "NoFit") (by decide +kernel) rfl (takesM_of rfl rfl rfl rfl) (L2N.pmk_own PySem.F.excBase_ValueError x_NoFit.1 g_NoFit x_NoFit.2.1 (raises_own x_NoFit.2.2.1 x_NoFit.2.2.2) (by exact rfl)))) (imSs i_next pss_nil)))
    (pss_one (imS (i_me hc rfl (allL hL 0 rfl)) (ps_fld (pv 0) (qe_cb (cm_list false) fun _ q => pe_callTy q (by rfl) z_list (by decide +kernel) (imA i_cons (pa_cons (imE i_var (pv 1)) (imA i_nil pa_nil)))) rfl)))))
theorem ok_Several_init (Z : Env K mg) : ∃ fd, FnOk P w K mg base (CXM K P w) 1 (ma K (ga K "Several") "__init__") fd ["self", "fits"] (spI K ["fits"] m_Several_init) ∧ Binds K fd ["self", "fits"] [] ∧ PySem.W.keepIn K (.ref (ma K (ga K "Several") "__init__")) = true := by
  obtain ⟨fd, F⟩ := Z.c.def_ 15 (d := d_Several_init) rfl
  exact ⟨fd, okA_Several_init Z F, F.bindsN fun _ _ _ _ _ _ us hl => match us, hl with | [_, _], _ => rfl, F.kp⟩
theorem sc_Words_next_word : FnScope ["self"] ["self"] (defScope s_Words_next_word) := ⟨rfl, rfl, rfl, by decide +kernel, rfl, by decide +kernel, by decide +kernel⟩
theorem okA_Words_next_word (Z : Env K mg) {fd : FuncData} (F : FunD K d_Words_next_word.name d_Words_next_word.qual d_Words_next_word.params d_Words_next_word.body d_Words_next_word.scope (d_Words_next_word.dvs K) (d_Words_next_word.kws K) (fAd K d_Words_next_word.at_) fd) : FnOk P w K mg base (CXM K P w) 4 (ma K (ga K "Words") "next_word") fd ["self"] (spM K m_Words_next_word) := by
  obtain ⟨fd_Words_is_over, G_Words_is_over, b_Words_is_over, k_Words_is_over⟩ := ok_Words_is_over (P := P) (w := w) (base := base) Z
  obtain ⟨fd_text_unless, G_text_unless, b_text_unless, k_text_unless⟩ := ok_text_unless (P := P) (w := w) (base := base) Z
  have g_text_unless := Z.glo 16 (x := "text_unless") rfl
  have hc : Hc K := Z.x 0 (f := hcB) rfl
  have xc : Xc K := Z.x 1 (f := xcB) rfl
  have c_Words := hc.cls (C := "Words") (by decide +kernel)
  have h_Words_is_over := meth_ok (Z.c.fact 19 (f := .meth "Words" "is_over") rfl)
  refine F.ok (CX := (CXM K P w)) sc_Words_next_word (fun vs H Q E h => len_M h) (fun cdv A outer s H vs Q E hr h => ⟨cS K p0 (wE E) b_Words_next_word, ?_, run_M rfl h⟩)
  exact (imSs i_seq (pss_cons (imS i_drop (ps_expr (imE i_call (pe_callS G_text_unless (hr.mono (by decide)) (by exact rfl) g_text_unless k_text_unless b_text_unless (fun σ => passM (takesM_of rfl rfl rfl rfl) σ) (imA i_cons (pa_cons (imE i_not (pe_not (imE (i_meth0 (m := "is_over") (allF (Ns := ["Words"]) rfl (by decide +kernel))) (qe_altC (C := "Words") (qe_meth0 (imE i_var (pv 0)) c_Words h_Words_is_over G_Words_is_over (hr.mono (by decide)) b_Words_is_over (fun σ => passM (takesM_of rfl rfl rfl rfl) σ)) qe_altN)))) (imA i_nil pa_nil)))))))
    (imSs i_seq (pss_cons (imS (i_augF hc sim_rAdd) (ps_fldaug (imE i_var (pv 0)) (imE i_int pe_int) in_add))
    (pss_one (imS i_ret (ps_ret (qe_ix (imE (i_fld hc) (pe_fld (imE i_var (pv 0)) rfl)) (qe_op om_sub (imE (i_fld hc) (pe_fld (imE i_var (pv 0)) rfl)) (imE i_int pe_int)) (fun _ _ => rfl)))))))))
theorem ok_Words_next_word (Z : Env K mg) : ∃ fd, FnOk P w K mg base (CXM K P w) 4 (ma K (ga K "Words") "next_word") fd ["self"] (spM K m_Words_next_word) ∧ Binds K fd ["self"] [] ∧ PySem.W.keepIn K (.ref (ma K (ga K "Words") "next_word")) = true := by
  obtain ⟨fd, F⟩ := Z.c.def_ 16 (d := d_Words_next_word) rfl
  exact ⟨fd, okA_Words_next_word Z F, F.bindsN fun _ _ _ _ _ _ us hl => match us, hl with | [_], _ => rfl, F.kp⟩
theorem sc_Words_one_of : FnScope ["self", "words", "word"] ["self", "words"] (defScope s_Words_one_of) := ⟨rfl, rfl, rfl, by decide +kernel, rfl, by decide +kernel, by decide +kernel⟩
theorem okA_Words_one_of (Z : Env K mg) {fd : FuncData} (F : FunD K d_Words_one_of.name d_Words_one_of.qual d_Words_one_of.params d_Words_one_of.body d_Words_one_of.scope (d_Words_one_of.dvs K) (d_Words_one_of.kws K) (fAd K d_Words_one_of.at_) fd) : FnOk P w K mg base (CXM K P w) 5 (ma K (ga K "Words") "one_of") fd ["self", "words"] (spM K m_Words_one_of) := by
  obtain ⟨fd_Words_next_word, G_Words_next_word, b_Words_next_word, k_Words_next_word⟩ := ok_Words_next_word (P := P) (w := w) (base := base) Z
  obtain ⟨fd_text_unless, G_text_unless, b_text_unless, k_text_unless⟩ := ok_text_unless (P := P) (w := w) (base := base) Z
  have g_text_unless := Z.glo 16 (x := "text_unless") rfl
  have hc : Hc K := Z.x 0 (f := hcB) rfl
  have xc : Xc K := Z.x 1 (f := xcB) rfl
  have c_Words := hc.cls (C := "Words") (by decide +kernel)
  have h_Words_next_word := meth_ok (Z.c.fact 24 (f := .meth "Words" "next_word") rfl)
  refine F.ok (CX := (CXM K P w)) sc_Words_one_of (fun vs H Q E h => len_M h) (fun cdv A outer s H vs Q E hr h => ⟨cS K p0 (wE E) b_Words_one_of, ?_, run_M rfl h⟩)
  exact (imSs i_seq (pss_cons (imS (i_asgN ⟨.inl rfl, .inl rfl⟩ (fun _ _ _ h => h)) (ps_set (i := 2) sc_Words_one_of.nd rfl (Or.inl rfl) (imE (i_meth0 (m := "next_word") (allF (Ns := ["Words"]) rfl (by decide +kernel))) (qe_altC (C := "Words") (qe_meth0 (imE i_var (pv 0)) c_Words h_Words_next_word G_Words_next_word (hr.mono (by decide)) b_Words_next_word (fun σ => passM (takesM_of rfl rfl rfl rfl) σ)) qe_altN))))
    (imSs i_seq (pss_cons (imS i_drop (ps_expr (imE i_call (pe_callS G_text_unless (hr.mono (by decide)) (by exact rfl) g_text_unless k_text_unless b_text_unless (fun σ => passM (takesM_of rfl rfl rfl rfl) σ) (imA i_cons (pa_cons (qe_cmp om_in (imE i_var (pv 2)) (imE i_var (pv 1)) (by rfl)) (imA i_nil pa_nil)))))))
    (pss_one (imS i_ret (ps_ret (imE i_var (pv 2)))))))))
theorem ok_Words_one_of (Z : Env K mg) : ∃ fd, FnOk P w K mg base (CXM K P w) 5 (ma K (ga K "Words") "one_of") fd ["self", "words"] (spM K m_Words_one_of) ∧ Binds K fd ["self", "words"] [] ∧ PySem.W.keepIn K (.ref (ma K (ga K "Words") "one_of")) = true := by
  obtain ⟨fd, F⟩ := Z.c.def_ 17 (d := d_Words_one_of) rfl
  exact ⟨fd, okA_Words_one_of Z F, F.bindsN fun _ _ _ _ _ _ us hl => match us, hl with | [_, _], _ => rfl, F.kp⟩
theorem sc_is_name : FnScope ["thing", "sign"] ["thing"] (defScope s_is_name) := ⟨rfl, rfl, rfl, by decide +kernel, rfl, by decide +kernel, by decide +kernel⟩
theorem okA_is_name (Z : Env K mg) {fd : FuncData} (F : FunD K d_is_name.name d_is_name.qual d_is_name.params d_is_name.body d_is_name.scope (d_is_name.dvs K) (d_is_name.kws K) (fAd K d_is_name.at_) fd) : FnOk P w K mg base (CXM K P w) 1 (ga K "is_name") fd ["thing"] (spM K m_is_name) := by
  have z_all := Z.free 22 (x := "all") rfl
  have z_isinstance := Z.free 17 (x := "isinstance") rfl
  have z_len := Z.free 2 (x := "len") rfl
  have z_str := Z.free 18 (x := "str") rfl
  have g_MOST_LETTERS := Z.int 25 (x := "MOST_LETTERS") (i := 8) rfl
  have g_LETTERS := Z.str 26 (x := "LETTERS") (z := "abcdefghijklmnopqrstuvwxyz") rfl
  have hc : Hc K := Z.x 0 (f := hcB) rfl
  have xc : Xc K := Z.x 1 (f := xcB) rfl
  refine F.ok (CX := (CXM K P w)) sc_is_name (fun vs H Q E h => len_M h) (fun cdv A outer s H vs Q E hr h => ⟨cS K p0 (wE E) b_is_name, ?_, run_M rfl h⟩)
  exact (imSs i_seq (pss_cons (imS i_ifS (ps_if (PW.pt (imW i_uOr (pw_or (imT i_uNot (pt_not (imT i_tru (pt_truth (qe_cb (cm_isi hc) fun _ q => pe_callB q (by rfl) z_isinstance (by decide +kernel) (imA i_cons (pa_cons (imE i_var (pv 0)) (imA i_cons (pa_cons (imE i_ty (pe_bltn (v := .ty "str") (by rfl) z_str (by decide +kernel) rfl)) (imA i_nil pa_nil)))))) (by intro _; rfl))))) (imW i_uOr (pw_or (qt_cmp (om_eq hr.units) (imE i_var (pv 0)) (imE i_str pe_str) (nomark _)) (pw_or1 (qt_cmp om_gt (qe_cb cm_len fun _ q => pe_callB q (by rfl) z_len (by decide +kernel) (imA i_cons (pa_cons (imE i_var (pv 0)) (imA i_nil pa_nil)))) (imE i_int (pe_glob rfl (Classical.choose_spec g_MOST_LETTERS) ⟨_, rfl⟩)) (nomark _)))))))) (pss_one (imS i_ret (ps_ret (imE i_bl pe_bl)))) (imSs i_next pss_nil)))
    (pss_one (imS i_ret (ps_ret (qe_cb (cm_all rfl) fun _ q => pe_callB q (by rfl) z_all (by decide +kernel) (imA i_cons (pa_cons (imE (i_lc (fun _ _ => ⟨.inl rfl, .inl rfl⟩) (fun _ h => h)) (pe_lc (own := [("sign", 1)]) rfl sc_is_name.nd (qi_D (imE i_var (pv 0))) (blkOk_by (own := [("sign", 1)]) (N := ["thing", "sign"]) (sc := defScope s_is_name) (by decide +kernel)) (fun _ _ _ _ _ => (imG (i_hNm ⟨.inl rfl, .inl rfl⟩) (pg_name (i := 1) sc_is_name.nd rfl (Or.inl rfl)))) (fun _ _ _ _ _ => (imTs i_uYes pts_nil)) (fun _ _ _ _ _ => (qe_cmp om_in (imE i_var (pv 1)) (imE i_str (pe_glob rfl (Classical.choose_spec g_LETTERS) ⟨_, rfl⟩)) (by rfl))))) (imA i_nil pa_nil)))))))))
theorem ok_is_name (Z : Env K mg) : ∃ fd, FnOk P w K mg base (CXM K P w) 1 (ga K "is_name") fd ["thing"] (spM K m_is_name) ∧ Binds K fd ["thing"] [] ∧ PySem.W.keepIn K (.ref (ga K "is_name")) = true := by
  obtain ⟨fd, F⟩ := Z.c.def_ 18 (d := d_is_name) rfl
  exact ⟨fd, okA_is_name Z F, F.bindsN fun _ _ _ _ _ _ us hl => match us, hl with | [_], _ => rfl, F.kp⟩
theorem sc_Words_front : FnScope ["self"] ["self"] (defScope s_Words_front) := ⟨rfl, rfl, rfl, by decide +kernel, rfl, by decide +kernel, by decide +kernel⟩
theorem okA_Words_front (Z : Env K mg) {fd : FuncData} (F : FunD K d_Words_front.name d_Words_front.qual d_Words_front.params d_Words_front.body d_Words_front.scope (d_Words_front.dvs K) (d_Words_front.kws K) (fAd K d_Words_front.at_) fd) : FnOk P w K mg base (CXM K P w) 2 (ma K (ga K "Words") "front") fd ["self"] (spM K m_Words_front) := by
  obtain ⟨fd_Words_is_over, G_Words_is_over, b_Words_is_over, k_Words_is_over⟩ := ok_Words_is_over (P := P) (w := w) (base := base) Z
  have hc : Hc K := Z.x 0 (f := hcB) rfl
  have xc : Xc K := Z.x 1 (f := xcB) rfl
  have c_Words := hc.cls (C := "Words") (by decide +kernel)
  have h_Words_is_over := meth_ok (Z.c.fact 19 (f := .meth "Words" "is_over") rfl)
  refine F.ok (CX := (CXM K P w)) sc_Words_front (fun vs H Q E h => len_M h) (fun cdv A outer s H vs Q E hr h => ⟨cS K p0 (wE E) b_Words_front, ?_, run_M rfl h⟩)
  exact (imSs i_seq (pss_cons (imS i_ifS (ps_if (imT i_tru (pt_truth (imE (i_meth0 (m := "is_over") (allF (Ns := ["Words"]) rfl (by decide +kernel))) (qe_altC (C := "Words") (qe_meth0 (imE i_var (pv 0)) c_Words h_Words_is_over G_Words_is_over (hr.mono (by decide)) b_Words_is_over (fun σ => passM (takesM_of rfl rfl rfl rfl) σ)) qe_altN)) (by intro _; rfl))) (pss_one (imS i_ret (ps_ret (imE i_str pe_str)))) (imSs i_next pss_nil)))
    (pss_one (imS i_ret (ps_ret (qe_ix (imE (i_fld hc) (pe_fld (imE i_var (pv 0)) rfl)) (imE (i_fld hc) (pe_fld (imE i_var (pv 0)) rfl)) (fun _ _ => rfl)))))))
theorem ok_Words_front (Z : Env K mg) : ∃ fd, FnOk P w K mg base (CXM K P w) 2 (ma K (ga K "Words") "front") fd ["self"] (spM K m_Words_front) ∧ Binds K fd ["self"] [] ∧ PySem.W.keepIn K (.ref (ma K (ga K "Words") "front")) = true := by
  obtain ⟨fd, F⟩ := Z.c.def_ 19 (d := d_Words_front) rfl
  exact ⟨fd, okA_Words_front Z F, F.bindsN fun _ _ _ _ _ _ us hl => match us, hl with | [_], _ => rfl, F.kp⟩
theorem sc_names_in : FnScope ["words", "found"] ["words"] (defScope s_names_in) := ⟨rfl, rfl, rfl, by decide +kernel, rfl, by decide +kernel, by decide +kernel⟩
theorem okA_names_in (Z : Env K mg) {fd : FuncData} (F : FunD K d_names_in.name d_names_in.qual d_names_in.params d_names_in.body d_names_in.scope (d_names_in.dvs K) (d_names_in.kws K) (fAd K d_names_in.at_) fd) : FnOk P w K mg base (CXM K P w) 5 (ga K "names_in") fd ["words"] (spM K m_names_in) := by
  obtain ⟨fd_Words_front, G_Words_front, b_Words_front, k_Words_front⟩ := ok_Words_front (P := P) (w := w) (base := base) Z
  obtain ⟨fd_Words_next_word, G_Words_next_word, b_Words_next_word, k_Words_next_word⟩ := ok_Words_next_word (P := P) (w := w) (base := base) Z
  obtain ⟨fd_is_name, G_is_name, b_is_name, k_is_name⟩ := ok_is_name (P := P) (w := w) (base := base) Z
  have g_is_name := Z.glo 27 (x := "is_name") rfl
  have hc : Hc K := Z.x 0 (f := hcB) rfl
  have xc : Xc K := Z.x 1 (f := xcB) rfl
  have c_Words := hc.cls (C := "Words") (by decide +kernel)
  have h_Words_front := meth_ok (Z.c.fact 28 (f := .meth "Words" "front") rfl)
  have h_Words_next_word := meth_ok (Z.c.fact 24 (f := .meth "Words" "next_word") rfl)
  refine F.ok (CX := (CXM K P w)) sc_names_in (fun vs H Q E h => len_M h) (fun cdv A outer s H vs Q E hr h => ⟨cS K p0 (wE E) b_names_in, ?_, run_M rfl h⟩)
  exact (imSs i_seq (pss_cons (imS (i_asgN ⟨.inl rfl, .inl rfl⟩ (fun _ _ _ h => h)) (ps_set (i := 1) sc_names_in.nd rfl (Or.inl rfl) (imE i_lst (pe_lst (imA i_nil pa_nil)))))
    (imSs i_seq (pss_cons (imS i_while (ps_while (passes_of rfl) (imT i_tru (pt_truth (imE i_call (pe_callS G_is_name (hr.mono (by decide)) (by exact rfl) g_is_name k_is_name b_is_name (fun σ => passM (takesM_of rfl rfl rfl rfl) σ) (imA i_cons (pa_cons (imE (i_meth0 (m := "front") (allF (Ns := ["Words"]) rfl (by decide +kernel))) (qe_altC (C := "Words") (qe_meth0 (imE i_var (pv 0)) c_Words h_Words_front G_Words_front (hr.mono (by decide)) b_Words_front (fun σ => passM (takesM_of rfl rfl rfl rfl) σ)) qe_altN)) (imA i_nil pa_nil))))) (by intro _; rfl)))
    (pss_one (imS i_drop (ps_expr (imE i_app (pe_bm PySem.F.plainAttrs_list PySem.F.slot_list_append PySem.F.type_list_append mt_append (imE i_var (pv 1)) (pa_cons (imE (i_meth0 (m := "next_word") (allF (Ns := ["Words"]) rfl (by decide +kernel))) (qe_altC (C := "Words") (qe_meth0 (imE i_var (pv 0)) c_Words h_Words_next_word G_Words_next_word (hr.mono (by decide)) b_Words_next_word (fun σ => passM (takesM_of rfl rfl rfl rfl) σ)) qe_altN)) pa_nil))))))))
    (pss_one (imS i_ret (ps_ret (imE i_var (pv 1)))))))))
theorem ok_names_in (Z : Env K mg) : ∃ fd, FnOk P w K mg base (CXM K P w) 5 (ga K "names_in") fd ["words"] (spM K m_names_in) ∧ Binds K fd ["words"] [] ∧ PySem.W.keepIn K (.ref (ga K "names_in")) = true := by
  obtain ⟨fd, F⟩ := Z.c.def_ 20 (d := d_names_in) rfl
  exact ⟨fd, okA_names_in Z F, F.bindsN fun _ _ _ _ _ _ us hl => match us, hl with | [_], _ => rfl, F.kp⟩
theorem sc_are_names : FnScope ["thing", "one"] ["thing"] (defScope s_are_names) := ⟨rfl, rfl, rfl, by decide +kernel, rfl, by decide +kernel, by decide +kernel⟩
theorem okA_are_names (Z : Env K mg) {fd : FuncData} (F : FunD K d_are_names.name d_are_names.qual d_are_names.params d_are_names.body d_are_names.scope (d_are_names.dvs K) (d_are_names.kws K) (fAd K d_are_names.at_) fd) : FnOk P w K mg base (CXM K P w) 2 (ga K "are_names") fd ["thing"] (spM K m_are_names) := by
  obtain ⟨fd_is_name, G_is_name, b_is_name, k_is_name⟩ := ok_is_name (P := P) (w := w) (base := base) Z
  have g_is_name := Z.glo 27 (x := "is_name") rfl
  have z_all := Z.free 22 (x := "all") rfl
  have z_isinstance := Z.free 17 (x := "isinstance") rfl
  have z_len := Z.free 2 (x := "len") rfl
  have z_list := Z.free 3 (x := "list") rfl
  have z_set := Z.free 12 (x := "set") rfl
  have hc : Hc K := Z.x 0 (f := hcB) rfl
  have xc : Xc K := Z.x 1 (f := xcB) rfl
  refine F.ok (CX := (CXM K P w)) sc_are_names (fun vs H Q E h => len_M h) (fun cdv A outer s H vs Q E hr h => ⟨cS K p0 (wE E) b_are_names, ?_, run_M rfl h⟩)
  exact (imSs i_seq (pss_cons (imS i_ifS (ps_if (PW.pt (imW i_uOr (pw_or (imT i_uNot (pt_not (imT i_tru (pt_truth (qe_cb (cm_isi hc) fun _ q => pe_callB q (by rfl) z_isinstance (by decide +kernel) (imA i_cons (pa_cons (imE i_var (pv 0)) (imA i_cons (pa_cons (imE i_ty (pe_bltn (v := .ty "list") (by rfl) z_list (by decide +kernel) rfl)) (imA i_nil pa_nil)))))) (by intro _; rfl))))) (pw_or1 (imT i_uNot (pt_not (imT i_tru (pt_truth (qe_cb (cm_all rfl) fun _ q => pe_callB q (by rfl) z_all (by decide +kernel) (imA i_cons (pa_cons (imE (i_lc (fun _ _ => ⟨.inl rfl, .inl rfl⟩) (fun _ h => h)) (pe_lc (own := [("one", 1)]) rfl sc_are_names.nd (qi_D (imE i_var (pv 0))) (blkOk_by (own := [("one", 1)]) (N := ["thing", "one"]) (sc := defScope s_are_names) (by decide +kernel)) (fun _ _ _ _ _ => (imG (i_hNm ⟨.inl rfl, .inl rfl⟩) (pg_name (i := 1) sc_are_names.nd rfl (Or.inl rfl)))) (fun _ _ _ _ _ => (imTs i_uYes pts_nil)) (fun _ _ _ _ _ => (imE i_call (pe_callS G_is_name (hr.mono (by decide)) (by exact rfl) g_is_name k_is_name b_is_name (fun σ => passM (TakesM.of takes0) σ) (imA i_cons (pa_cons (imE i_var (pv 1)) (imA i_nil pa_nil)))))))) (imA i_nil pa_nil)))) (by intro _; rfl))))))))) (pss_one (imS i_ret (ps_ret (imE i_bl pe_bl)))) (imSs i_next pss_nil)))
    (pss_one (imS i_ret (ps_ret (qe_cmp (om_eq hr.units) (imE i_lenSet (pe_lenSetG rfl (by rfl) z_len (by rfl) z_set (imE i_var (pv 0)))) (qe_cb cm_len fun _ q => pe_callB q (by rfl) z_len (by decide +kernel) (imA i_cons (pa_cons (imE i_var (pv 0)) (imA i_nil pa_nil)))) (nomark _)))))))
theorem ok_are_names (Z : Env K mg) : ∃ fd, FnOk P w K mg base (CXM K P w) 2 (ga K "are_names") fd ["thing"] (spM K m_are_names) ∧ Binds K fd ["thing"] [] ∧ PySem.W.keepIn K (.ref (ga K "are_names")) = true := by
  obtain ⟨fd, F⟩ := Z.c.def_ 21 (d := d_are_names) rfl
  exact ⟨fd, okA_are_names Z F, F.bindsN fun _ _ _ _ _ _ us hl => match us, hl with | [_], _ => rfl, F.kp⟩
theorem sc_Named_init : FnScope ["self", "names"] ["self", "names"] (defScope s_Named_init) := ⟨rfl, rfl, rfl, by decide +kernel, rfl, by decide +kernel, by decide +kernel⟩
theorem okA_Named_init (Z : Env K mg) {fd : FuncData} (F : FunD K d_Named_init.name d_Named_init.qual d_Named_init.params d_Named_init.body d_Named_init.scope (d_Named_init.dvs K) (d_Named_init.kws K) (fAd K d_Named_init.at_) fd) : FnOk P w K mg base (CXM K P w) 3 (ma K (ga K "Named") "__init__") fd ["self", "names"] (spI K ["names"] m_Named_init) := by
  obtain ⟨fd_are_names, G_are_names, b_are_names, k_are_names⟩ := ok_are_names (P := P) (w := w) (base := base) Z
  have g_NoFit := Z.glo 21 (x := "NoFit") rfl
  have g_are_names := Z.glo 29 (x := "are_names") rfl
  have z_list := Z.free 3 (x := "list") rfl
  have hc : Hc K := Z.x 0 (f := hcB) rfl
  have xc : Xc K := Z.x 1 (f := xcB) rfl
  have x_NoFit := exc_ok (Z.c.fact 23 (f := .exc "NoFit") rfl)
  refine F.ok (CX := (CXM K P w)) sc_Named_init (fun vs H Q E h => len_I h) (fun cdv A outer s H vs Q E hr h => ?_)
  obtain ⟨x, dx, C, hL, q⟩ := run_I (N := ["self", "names"]) rfl (by decide) h
  refine ⟨cS K ⟨none, 0, some (x, dx, C)⟩ (wE E) b_Named_init, ?_, q⟩
  exact (imSs i_seq (pss_cons (imS i_ifS (ps_if (PW.pt (imW i_uOr (pw_or (imT i_uNot (pt_not (imT i_tru (pt_truth (imE i_call (pe_callS G_are_names (hr.mono (by decide)) (by exact rfl) g_are_names k_are_names b_are_names (fun σ => passM (takesM_of rfl rfl rfl rfl) σ) (imA i_cons (pa_cons (imE i_var (pv 1)) (imA i_nil pa_nil))))) (by intro _; rfl))))) (pw_or1 (qt_cmp (om_eqE hr.units) (imE i_var (pv 1)) (imE i_lst (pe_lst (imA i_nil pa_nil))) (nomark _)))))) (pss_one (qs_raiseM (C := "NoFit") (by decide +kernel) rfl (takesM_of rfl rfl rfl rfl) (L2N.pmk_own PySem.F.excBase_ValueError x_NoFit.1 g_NoFit x_NoFit.2.1 (raises_own x_NoFit.2.2.1 x_NoFit.2.2.2) (by exact rfl)))) (imSs i_next pss_nil)))
    (pss_one (imS (i_me hc rfl (allL hL 0 rfl)) (ps_fld (pv 0) (qe_cb (cm_list false) fun _ q => pe_callTy q (by rfl) z_list (by decide +kernel) (imA i_cons (pa_cons (imE i_var (pv 1)) (imA i_nil pa_nil)))) rfl)))))
theorem ok_Named_init (Z : Env K mg) : ∃ fd, FnOk P w K mg base (CXM K P w) 3 (ma K (ga K "Named") "__init__") fd ["self", "names"] (spI K ["names"] m_Named_init) ∧ Binds K fd ["self", "names"] [] ∧ PySem.W.keepIn K (.ref (ma K (ga K "Named") "__init__")) = true := by
  obtain ⟨fd, F⟩ := Z.c.def_ 22 (d := d_Named_init) rfl
  exact ⟨fd, okA_Named_init Z F, F.bindsN fun _ _ _ _ _ _ us hl => match us, hl with | [_, _], _ => rfl, F.kp⟩
theorem sc_is_whole : FnScope ["thing"] ["thing"] (defScope s_is_whole) := ⟨rfl, rfl, rfl, by decide +kernel, rfl, by decide +kernel, by decide +kernel⟩
theorem okA_is_whole (Z : Env K mg) {fd : FuncData} (F : FunD K d_is_whole.name d_is_whole.qual d_is_whole.params d_is_whole.body d_is_whole.scope (d_is_whole.dvs K) (d_is_whole.kws K) (fAd K d_is_whole.at_) fd) : FnOk P w K mg base (CXM K P w) 1 (ga K "is_whole") fd ["thing"] (spM K m_is_whole) := by
  have z_bool := Z.free 30 (x := "bool") rfl
  have z_int := Z.free 11 (x := "int") rfl
  have z_isinstance := Z.free 17 (x := "isinstance") rfl
  have hc : Hc K := Z.x 0 (f := hcB) rfl
  have xc : Xc K := Z.x 1 (f := xcB) rfl
  refine F.ok (CX := (CXM K P w)) sc_is_whole (fun vs H Q E h => len_M h) (fun cdv A outer s H vs Q E hr h => ⟨cS K p0 (wE E) b_is_whole, ?_, run_M rfl h⟩)
  exact (pss_one (imS i_ret (ps_ret (imE i_and (pe_and (qe_cb (cm_isi hc) fun _ q => pe_callB q (by rfl) z_isinstance (by decide +kernel) (imA i_cons (pa_cons (imE i_var (pv 0)) (imA i_cons (pa_cons (imE i_ty (pe_bltn (v := .ty "int") (by rfl) z_int (by decide +kernel) rfl)) (imA i_nil pa_nil)))))) (pe_one (imE i_not (pe_not (qe_cb (cm_isi hc) fun _ q => pe_callB q (by rfl) z_isinstance (by decide +kernel) (imA i_cons (pa_cons (imE i_var (pv 0)) (imA i_cons (pa_cons (imE i_ty (pe_bltn (v := .ty "bool") (by rfl) z_bool (by decide +kernel) rfl)) (imA i_nil pa_nil))))))))))))))
theorem ok_is_whole (Z : Env K mg) : ∃ fd, FnOk P w K mg base (CXM K P w) 1 (ga K "is_whole") fd ["thing"] (spM K m_is_whole) ∧ Binds K fd ["thing"] [] ∧ PySem.W.keepIn K (.ref (ga K "is_whole")) = true := by
  obtain ⟨fd, F⟩ := Z.c.def_ 23 (d := d_is_whole) rfl
  exact ⟨fd, okA_is_whole Z F, F.bindsN fun _ _ _ _ _ _ us hl => match us, hl with | [_], _ => rfl, F.kp⟩
theorem sc_is_weight : FnScope ["thing"] ["thing"] (defScope s_is_weight) := ⟨rfl, rfl, rfl, by decide +kernel, rfl, by decide +kernel, by decide +kernel⟩
theorem okA_is_weight (Z : Env K mg) {fd : FuncData} (F : FunD K d_is_weight.name d_is_weight.qual d_is_weight.params d_is_weight.body d_is_weight.scope (d_is_weight.dvs K) (d_is_weight.kws K) (fAd K d_is_weight.at_) fd) : FnOk P w K mg base (CXM K P w) 2 (ga K "is_weight") fd ["thing"] (spM K m_is_weight) := by
  obtain ⟨fd_is_whole, G_is_whole, b_is_whole, k_is_whole⟩ := ok_is_whole (P := P) (w := w) (base := base) Z
  have g_is_whole := Z.glo 31 (x := "is_whole") rfl
  have hc : Hc K := Z.x 0 (f := hcB) rfl
  have xc : Xc K := Z.x 1 (f := xcB) rfl
  refine F.ok (CX := (CXM K P w)) sc_is_weight (fun vs H Q E h => len_M h) (fun cdv A outer s H vs Q E hr h => ⟨cS K p0 (wE E) b_is_weight, ?_, run_M rfl h⟩)
  exact (pss_one (imS i_ret (ps_ret (imE i_and (pe_and (imE i_call (pe_callS G_is_whole (hr.mono (by decide)) (by exact rfl) g_is_whole k_is_whole b_is_whole (fun σ => passM (takesM_of rfl rfl rfl rfl) σ) (imA i_cons (pa_cons (imE i_var (pv 0)) (imA i_nil pa_nil))))) (pe_one (qe_cmp om_ge (imE i_var (pv 0)) (imE i_int pe_int) (nomark _))))))))
theorem ok_is_weight (Z : Env K mg) : ∃ fd, FnOk P w K mg base (CXM K P w) 2 (ga K "is_weight") fd ["thing"] (spM K m_is_weight) ∧ Binds K fd ["thing"] [] ∧ PySem.W.keepIn K (.ref (ga K "is_weight")) = true := by
  obtain ⟨fd, F⟩ := Z.c.def_ 24 (d := d_is_weight) rfl
  exact ⟨fd, okA_is_weight Z F, F.bindsN fun _ _ _ _ _ _ us hl => match us, hl with | [_], _ => rfl, F.kp⟩
theorem sc_Least_init : FnScope ["self", "weight"] ["self", "weight"] (defScope s_Least_init) := ⟨rfl, rfl, rfl, by decide +kernel, rfl, by decide +kernel, by decide +kernel⟩
theorem okA_Least_init (Z : Env K mg) {fd : FuncData} (F : FunD K d_Least_init.name d_Least_init.qual d_Least_init.params d_Least_init.body d_Least_init.scope (d_Least_init.dvs K) (d_Least_init.kws K) (fAd K d_Least_init.at_) fd) : FnOk P w K mg base (CXM K P w) 3 (ma K (ga K "Least") "__init__") fd ["self", "weight"] (spI K ["weight"] m_Least_init) := by
  obtain ⟨fd_is_weight, G_is_weight, b_is_weight, k_is_weight⟩ := ok_is_weight (P := P) (w := w) (base := base) Z
  have g_NoFit := Z.glo 21 (x := "NoFit") rfl
  have g_is_weight := Z.glo 32 (x := "is_weight") rfl
  have hc : Hc K := Z.x 0 (f := hcB) rfl
  have xc : Xc K := Z.x 1 (f := xcB) rfl
  have x_NoFit := exc_ok (Z.c.fact 23 (f := .exc "NoFit") rfl)
  refine F.ok (CX := (CXM K P w)) sc_Least_init (fun vs H Q E h => len_I h) (fun cdv A outer s H vs Q E hr h => ?_)
  obtain ⟨x, dx, C, hL, q⟩ := run_I (N := ["self", "weight"]) rfl (by decide) h
  refine ⟨cS K ⟨none, 0, some (x, dx, C)⟩ (wE E) b_Least_init, ?_, q⟩
  exact (imSs i_seq (pss_cons (imS i_ifS (ps_if (imT i_uNot (pt_not (imT i_tru (pt_truth (imE i_call (pe_callS G_is_weight (hr.mono (by decide)) (by exact rfl) g_is_weight k_is_weight b_is_weight (fun σ => passM (takesM_of rfl rfl rfl rfl) σ) (imA i_cons (pa_cons (imE i_var (pv 1)) (imA i_nil pa_nil))))) (by intro _; rfl))))) (pss_one (qs_raiseM (C := "NoFit") (by decide +kernel) rfl (takesM_of rfl rfl rfl rfl) (L2N.pmk_own PySem.F.excBase_ValueError x_NoFit.1 g_NoFit x_NoFit.2.1 (raises_own x_NoFit.2.2.1 x_NoFit.2.2.2) (by exact rfl)))) (imSs i_next pss_nil)))
    (pss_one (imS (i_me hc rfl (allL hL 0 rfl)) (ps_fld (pv 0) (imE i_var (pv 1)) rfl)))))
theorem ok_Least_init (Z : Env K mg) : ∃ fd, FnOk P w K mg base (CXM K P w) 3 (ma K (ga K "Least") "__init__") fd ["self", "weight"] (spI K ["weight"] m_Least_init) ∧ Binds K fd ["self", "weight"] [] ∧ PySem.W.keepIn K (.ref (ma K (ga K "Least") "__init__")) = true := by
  obtain ⟨fd, F⟩ := Z.c.def_ 25 (d := d_Least_init) rfl
  exact ⟨fd, okA_Least_init Z F, F.bindsN fun _ _ _ _ _ _ us hl => match us, hl with | [_, _], _ => rfl, F.kp⟩
theorem sc_Not_init : FnScope ["self", "fit"] ["self", "fit"] (defScope s_Not_init) := ⟨rfl, rfl, rfl, by decide +kernel, rfl, by decide +kernel, by decide +kernel⟩
theorem okA_Not_init (Z : Env K mg) {fd : FuncData} (F : FunD K d_Not_init.name d_Not_init.qual d_Not_init.params d_Not_init.body d_Not_init.scope (d_Not_init.dvs K) (d_Not_init.kws K) (fAd K d_Not_init.at_) fd) : FnOk P w K mg base (CXM K P w) 1 (ma K (ga K "Not") "__init__") fd ["self", "fit"] (spI K ["fit"] m_Not_init) := by
  have g_Fit := Z.glo 20 (x := "Fit") rfl
  have g_NoFit := Z.glo 21 (x := "NoFit") rfl
  have z_isinstance := Z.free 17 (x := "isinstance") rfl
  have hc : Hc K := Z.x 0 (f := hcB) rfl
  have xc : Xc K := Z.x 1 (f := xcB) rfl
  have x_NoFit := exc_ok (Z.c.fact 23 (f := .exc "NoFit") rfl)
  refine F.ok (CX := (CXM K P w)) sc_Not_init (fun vs H Q E h => len_I h) (fun cdv A outer s H vs Q E hr h => ?_)
  obtain ⟨x, dx, C, hL, q⟩ := run_I (N := ["self", "fit"]) rfl (by decide) h
  refine ⟨cS K ⟨none, 0, some (x, dx, C)⟩ (wE E) b_Not_init, ?_, q⟩
  exact (imSs i_seq (pss_cons (imS i_ifS (ps_if (imT i_uNot (pt_not (imT i_tru (pt_truth (qe_cb (cm_isi hc) fun _ q => pe_callB q (by rfl) z_isinstance (by decide +kernel) (imA i_cons (pa_cons (imE i_var (pv 1)) (imA i_cons (pa_cons (imE i_cls (pe_glob rfl g_Fit rfl)) (imA i_nil pa_nil)))))) (by intro _; rfl))))) (pss_one (qs_raiseM (C := "NoFit") (by decide +kernel) rfl (takesM_of rfl rfl rfl rfl) (L2N.pmk_own PySem.F.excBase_ValueError x_NoFit.1 g_NoFit x_NoFit.2.1 (raises_own x_NoFit.2.2.1 x_NoFit.2.2.2) (by exact rfl)))) (imSs i_next pss_nil)))
    (pss_one (imS (i_me hc rfl (allL hL 0 rfl)) (ps_fld (pv 0) (imE i_var (pv 1)) rfl)))))
theorem ok_Not_init (Z : Env K mg) : ∃ fd, FnOk P w K mg base (CXM K P w) 1 (ma K (ga K "Not") "__init__") fd ["self", "fit"] (spI K ["fit"] m_Not_init) ∧ Binds K fd ["self", "fit"] [] ∧ PySem.W.keepIn K (.ref (ma K (ga K "Not") "__init__")) = true := by
  obtain ⟨fd, F⟩ := Z.c.def_ 26 (d := d_Not_init) rfl
  exact ⟨fd, okA_Not_init Z F, F.bindsN fun _ _ _ _ _ _ us hl => match us, hl with | [_, _], _ => rfl, F.kp⟩
theorem sc_number_of : FnScope ["word", "figures", "sign"] ["word"] (defScope s_number_of) := ⟨rfl, rfl, rfl, by decide +kernel, rfl, by decide +kernel, by decide +kernel⟩
theorem okA_number_of (Z : Env K mg) {fd : FuncData} (F : FunD K d_number_of.name d_number_of.qual d_number_of.params d_number_of.body d_number_of.scope (d_number_of.dvs K) (d_number_of.kws K) (fAd K d_number_of.at_) fd) : FnOk P w K mg base (CXM K P w) 4 (ga K "number_of") fd ["word"] (spM K m_number_of) := by
  obtain ⟨fd_text_unless, G_text_unless, b_text_unless, k_text_unless⟩ := ok_text_unless (P := P) (w := w) (base := base) Z
  have g_text_unless := Z.glo 16 (x := "text_unless") rfl
  have z_all := Z.free 22 (x := "all") rfl
  have z_int := Z.free 11 (x := "int") rfl
  have z_len := Z.free 2 (x := "len") rfl
  have g_MOST_FIGURES := Z.int 33 (x := "MOST_FIGURES") (i := 60) rfl
  have g_FIGURES := Z.str 34 (x := "FIGURES") (z := "0123456789") rfl
  have hc : Hc K := Z.x 0 (f := hcB) rfl
  have xc : Xc K := Z.x 1 (f := xcB) rfl
  refine F.ok (CX := (CXM K P w)) sc_number_of (fun vs H Q E h => len_M h) (fun cdv A outer s H vs Q E hr h => ⟨cS K p0 (wE E) b_number_of, ?_, run_M rfl h⟩)
  exact (imSs i_seq (pss_cons (imS (i_asgN ⟨.inl rfl, .inl rfl⟩ (fun _ _ _ h => h)) (ps_set (i := 1) sc_number_of.nd rfl (Or.inl rfl) (imE i_var (pv 0))))
    (imSs i_seq (pss_cons (imS i_ifS (ps_if (imT i_tru (pt_truth (imE i_starts (pe_m1 PySem.F.slot_str_startswith PySem.F.type_str_startswith mt_startswith (imE i_var (pv 0)) (imE i_str pe_str))) (by intro _; rfl))) (pss_one (imS (i_asgN ⟨.inl rfl, .inl rfl⟩ (fun _ _ _ h => h)) (ps_set (i := 1) sc_number_of.nd rfl (Or.inl rfl) (qe_sl (imE i_var (pv 0)) (imO i_oSome (po_some (imE i_int pe_int))) (imO i_oNone po_none))))) (imSs i_next pss_nil)))
    (imSs i_seq (pss_cons (imS i_drop (ps_expr (imE i_call (pe_callS G_text_unless (hr.mono (by decide)) (by exact rfl) g_text_unless k_text_unless b_text_unless (fun σ => passM (takesM_of rfl rfl rfl rfl) σ) (imA i_cons (pa_cons (imE i_and (pe_and (qe_chain om_le om_le (imE i_int pe_int) (qe_cb cm_len fun _ q => pe_callB q (by rfl) z_len (by decide +kernel) (imA i_cons (pa_cons (imE i_var (pv 1)) (imA i_nil pa_nil)))) (imE i_int (pe_glob rfl (Classical.choose_spec g_MOST_FIGURES) ⟨_, rfl⟩))) (pe_one (qe_cb (cm_all rfl) fun _ q => pe_callB q (by rfl) z_all (by decide +kernel) (imA i_cons (pa_cons (imE (i_lc (fun _ _ => ⟨.inl rfl, .inl rfl⟩) (fun _ h => h)) (pe_lc (own := [("sign", 2)]) rfl sc_number_of.nd (qi_D (imE i_var (pv 1))) (blkOk_by (own := [("sign", 2)]) (N := ["word", "figures", "sign"]) (sc := defScope s_number_of) (by decide +kernel)) (fun _ _ _ _ _ => (imG (i_hNm ⟨.inl rfl, .inl rfl⟩) (pg_name (i := 2) sc_number_of.nd rfl (Or.inl rfl)))) (fun _ _ _ _ _ => (imTs i_uYes pts_nil)) (fun _ _ _ _ _ => (qe_cmp om_in (imE i_var (pv 2)) (imE i_str (pe_glob rfl (Classical.choose_spec g_FIGURES) ⟨_, rfl⟩)) (by rfl))))) (imA i_nil pa_nil))))))) (imA i_nil pa_nil)))))))
    (imSs i_seq (pss_cons (imS i_drop (ps_expr (imE i_call (pe_callS G_text_unless (hr.mono (by decide)) (by exact rfl) g_text_unless k_text_unless b_text_unless (fun σ => passM (takesM_of rfl rfl rfl rfl) σ) (imA i_cons (pa_cons (imE i_or (pe_or (qe_cmp (om_ne hr.units) (qe_ix (imE i_var (pv 1)) (imE i_int pe_int) (fun _ _ => rfl)) (imE i_str pe_str) (nomark _)) (pe_one (qe_cmp (om_eq hr.units) (imE i_var (pv 0)) (imE i_str pe_str) (nomark _))))) (imA i_nil pa_nil)))))))
    (pss_one (imS i_ret (ps_ret (qe_cb cm_intT fun _ q => pe_callTy q (by rfl) z_int (by decide +kernel) (imA i_cons (pa_cons (imE i_var (pv 0)) (imA i_nil pa_nil)))))))))))))))
theorem ok_number_of (Z : Env K mg) : ∃ fd, FnOk P w K mg base (CXM K P w) 4 (ga K "number_of") fd ["word"] (spM K m_number_of) ∧ Binds K fd ["word"] [] ∧ PySem.W.keepIn K (.ref (ga K "number_of")) = true := by
  obtain ⟨fd, F⟩ := Z.c.def_ 27 (d := d_number_of) rfl
  exact ⟨fd, okA_number_of Z F, F.bindsN fun _ _ _ _ _ _ us hl => match us, hl with | [_], _ => rfl, F.kp⟩
theorem sc_Words_next_number : FnScope ["self"] ["self"] (defScope s_Words_next_number) := ⟨rfl, rfl, rfl, by decide +kernel, rfl, by decide +kernel, by decide +kernel⟩
theorem okA_Words_next_number (Z : Env K mg) {fd : FuncData} (F : FunD K d_Words_next_number.name d_Words_next_number.qual d_Words_next_number.params d_Words_next_number.body d_Words_next_number.scope (d_Words_next_number.dvs K) (d_Words_next_number.kws K) (fAd K d_Words_next_number.at_) fd) : FnOk P w K mg base (CXM K P w) 5 (ma K (ga K "Words") "next_number") fd ["self"] (spM K m_Words_next_number) := by
  obtain ⟨fd_Words_next_word, G_Words_next_word, b_Words_next_word, k_Words_next_word⟩ := ok_Words_next_word (P := P) (w := w) (base := base) Z
  obtain ⟨fd_number_of, G_number_of, b_number_of, k_number_of⟩ := ok_number_of (P := P) (w := w) (base := base) Z
  have g_number_of := Z.glo 35 (x := "number_of") rfl
  have hc : Hc K := Z.x 0 (f := hcB) rfl
  have xc : Xc K := Z.x 1 (f := xcB) rfl
  have c_Words := hc.cls (C := "Words") (by decide +kernel)
  have h_Words_next_word := meth_ok (Z.c.fact 24 (f := .meth "Words" "next_word") rfl)
  refine F.ok (CX := (CXM K P w)) sc_Words_next_number (fun vs H Q E h => len_M h) (fun cdv A outer s H vs Q E hr h => ⟨cS K p0 (wE E) b_Words_next_number, ?_, run_M rfl h⟩)
  exact (pss_one (imS i_ret (ps_ret (imE i_call (pe_callS G_number_of (hr.mono (by decide)) (by exact rfl) g_number_of k_number_of b_number_of (fun σ => passM (takesM_of rfl rfl rfl rfl) σ) (imA i_cons (pa_cons (imE (i_meth0 (m := "next_word") (allF (Ns := ["Words"]) rfl (by decide +kernel))) (qe_altC (C := "Words") (qe_meth0 (imE i_var (pv 0)) c_Words h_Words_next_word G_Words_next_word (hr.mono (by decide)) b_Words_next_word (fun σ => passM (takesM_of rfl rfl rfl rfl) σ)) qe_altN)) (imA i_nil pa_nil))))))))
theorem ok_Words_next_number (Z : Env K mg) : ∃ fd, FnOk P w K mg base (CXM K P w) 5 (ma K (ga K "Words") "next_number") fd ["self"] (spM K m_Words_next_number) ∧ Binds K fd ["self"] [] ∧ PySem.W.keepIn K (.ref (ma K (ga K "Words") "next_number")) = true := by
  obtain ⟨fd, F⟩ := Z.c.def_ 28 (d := d_Words_next_number) rfl
  exact ⟨fd, okA_Words_next_number Z F, F.bindsN fun _ _ _ _ _ _ us hl => match us, hl with | [_], _ => rfl, F.kp⟩
theorem sc_fit_in : FnScope ["words", "deep", "word"] ["words", "deep"] (defScope s_fit_in) := ⟨rfl, rfl, rfl, by decide +kernel, rfl, by decide +kernel, by decide +kernel⟩
theorem bn_fit_in_2 {K : PySem.W.Frag} {fd : FuncData} (F : FunD K d_fit_in.name d_fit_in.qual d_fit_in.params d_fit_in.body d_fit_in.scope (d_fit_in.dvs K) (d_fit_in.kws K) (fAd K d_fit_in.at_) fd) : ∃ ds, Vals [] ds ∧ Binds K fd ["words", "deep"] ds :=
  F.binds1 2 1 (List.cons_ne_nil _ _) rfl fun _ _ _ _ _ _ _ us its hu hi => match us, hu, its, hi with | [_, _], _, [_], _ => ⟨_, rfl, rfl⟩
theorem bn_fit_in_1 {K : PySem.W.Frag} {fd : FuncData} (F : FunD K d_fit_in.name d_fit_in.qual d_fit_in.params d_fit_in.body d_fit_in.scope (d_fit_in.dvs K) (d_fit_in.kws K) (fAd K d_fit_in.at_) fd) : ∃ ds, Vals [(V.int 0)] ds ∧ Binds K fd ["words", "deep"] ds :=
  F.binds1 1 0 (List.cons_ne_nil _ _) rfl fun _ _ _ _ _ _ _ us its hu hi => match us, hu, its, hi with | [_], _, [_], _ => ⟨_, rfl, rfl⟩
theorem sc_several_in : FnScope ["words", "deep", "fits", "sign", "behind"] ["words", "deep"] (defScope s_several_in) := ⟨rfl, rfl, rfl, by decide +kernel, rfl, by decide +kernel, by decide +kernel⟩
theorem bi_several_in {fd : FuncData} (F : FunD K d_several_in.name d_several_in.qual d_several_in.params d_several_in.body d_several_in.scope (d_several_in.dvs K) (d_several_in.kws K) (fAd K d_several_in.at_) fd) : Binds K fd ["words", "deep"] [] := F.bindsN fun _ _ _ _ _ _ us hl => match us, hl with | [_, _], _ => rfl
theorem okA_fit_in (d : Nat) (Z : Env K mg) {fd_fit_in : FuncData} {fd_several_in : FuncData} (F_fit_in : FunD K d_fit_in.name d_fit_in.qual d_fit_in.params d_fit_in.body d_fit_in.scope (d_fit_in.dvs K) (d_fit_in.kws K) (fAd K d_fit_in.at_) fd_fit_in) (F_several_in : FunD K d_several_in.name d_several_in.qual d_several_in.params d_several_in.body d_several_in.scope (d_several_in.dvs K) (d_several_in.kws K) (fAd K d_several_in.at_) fd_several_in) (G_fit_in : FnOk P w K mg base (CXM K P w) (5 + d) (ga K "fit_in") fd_fit_in ["words", "deep"] (spM K (q_fit_in d))) (G_several_in : FnOk P w K mg base (CXM K P w) (5 + d) (ga K "several_in") fd_several_in ["words", "deep"] (spM K (q_several_in d))) : FnOk P w K mg base (CXM K P w) (5 + d + 1) (ga K "fit_in") fd_fit_in ["words", "deep"] (spM K (q_fit_in (d + 1))) := by
  have b_fit_in := F_fit_in
  have k_fit_in := F_fit_in.kp
  have b_several_in := bi_several_in F_several_in
  have k_several_in := F_several_in.kp
  obtain ⟨fd_Least_init, G_Least_init, b_Least_init, k_Least_init⟩ := ok_Least_init (P := P) (w := w) (base := base) Z
  obtain ⟨fd_Named_init, G_Named_init, b_Named_init, k_Named_init⟩ := ok_Named_init (P := P) (w := w) (base := base) Z
  obtain ⟨fd_Not_init, G_Not_init, b_Not_init, k_Not_init⟩ := ok_Not_init (P := P) (w := w) (base := base) Z
  obtain ⟨fd_Words_next_number, G_Words_next_number, b_Words_next_number, k_Words_next_number⟩ := ok_Words_next_number (P := P) (w := w) (base := base) Z
  obtain ⟨fd_Words_next_word, G_Words_next_word, b_Words_next_word, k_Words_next_word⟩ := ok_Words_next_word (P := P) (w := w) (base := base) Z
  obtain ⟨fd_names_in, G_names_in, b_names_in, k_names_in⟩ := ok_names_in (P := P) (w := w) (base := base) Z
  obtain ⟨fd_text_unless, G_text_unless, b_text_unless, k_text_unless⟩ := ok_text_unless (P := P) (w := w) (base := base) Z
  obtain ⟨ds_fit_in_2, dv_fit_in_2, bb_fit_in_2⟩ := bn_fit_in_2 b_fit_in
  have g_Any := Z.glo 36 (x := "Any") rfl
  have g_Kind := Z.glo 37 (x := "Kind") rfl
  have g_Least := Z.glo 38 (x := "Least") rfl
  have g_Not := Z.glo 39 (x := "Not") rfl
  have g_Place := Z.glo 40 (x := "Place") rfl
  have g_fit_in := Z.glo 41 (x := "fit_in") rfl
  have g_names_in := Z.glo 42 (x := "names_in") rfl
  have g_several_in := Z.glo 43 (x := "several_in") rfl
  have g_text_unless := Z.glo 16 (x := "text_unless") rfl
  have g_DEEPEST := Z.int 44 (x := "DEEPEST") (i := 40) rfl
  have hc : Hc K := Z.x 0 (f := hcB) rfl
  have xc : Xc K := Z.x 1 (f := xcB) rfl
  have m0_Any := mk0B_ok (Z.x 3 (f := fun K => mk0B K (ga K "Any")) rfl)
  have mk_Kind := mkB_ok (Z.x 4 (f := fun K => mkB K (ga K "Kind") (ma K (ga K "Named") "__init__")) rfl)
  have mk_Least := mkr_ok (Z.c.fact 45 (f := .mkr "Least") rfl)
  have mk_Not := mkr_ok (Z.c.fact 46 (f := .mkr "Not") rfl)
  have mk_Place := mkB_ok (Z.x 5 (f := fun K => mkB K (ga K "Place") (ma K (ga K "Named") "__init__")) rfl)
  have c_Words := hc.cls (C := "Words") (by decide +kernel)
  have h_Words_next_number := meth_ok (Z.c.fact 47 (f := .meth "Words" "next_number") rfl)
  have h_Words_next_word := meth_ok (Z.c.fact 24 (f := .meth "Words" "next_word") rfl)
  rw [q_fit_in_s]
  refine F_fit_in.ok (CX := (CXM K P w)) sc_fit_in (fun vs H Q E h => len_M h) (fun cdv A outer s H vs Q E hr h => ⟨cS K p0 (wE E) (Mo.b_fit_in (q_fit_in d) (q_several_in d)), ?_, run_M rfl h⟩)
  exact (imSs i_seq (pss_cons (imS i_drop (ps_expr (imE i_call (pe_callS G_text_unless (hr.mono (by omega)) (by exact rfl) g_text_unless k_text_unless b_text_unless (fun σ => passM (takesM_of rfl rfl rfl rfl) σ) (imA i_cons (pa_cons (qe_cmp om_lt (imE i_var (pv 1)) (imE i_int (pe_glob rfl (Classical.choose_spec g_DEEPEST) ⟨_, rfl⟩)) (nomark _)) (imA i_nil pa_nil)))))))
    (imSs i_seq (pss_cons (imS (i_asgN ⟨.inl rfl, .inl rfl⟩ (fun _ _ _ h => h)) (ps_set (i := 2) sc_fit_in.nd rfl (Or.inl rfl) (imE (i_meth0 (m := "next_word") (allF (Ns := ["Words"]) rfl (by decide +kernel))) (qe_altC (C := "Words") (qe_meth0 (imE i_var (pv 0)) c_Words h_Words_next_word G_Words_next_word (hr.mono (by omega)) b_Words_next_word (fun σ => passM (takesM_of rfl rfl rfl rfl) σ)) qe_altN))))
    (imSs i_seq (pss_cons (imS i_ifS (ps_if (qt_cmp (om_eq hr.units) (imE i_var (pv 2)) (imE i_str pe_str) (nomark _)) (pss_one (imS i_ret (ps_ret (imE (i_make0 (by decide +kernel)) (pe_make00 m0_Any (by exact rfl) g_Any))))) (imSs i_next pss_nil)))
    (imSs i_seq (pss_cons (imS i_ifS (ps_if (qt_cmp (om_eq hr.units) (imE i_var (pv 2)) (imE i_str pe_str) (nomark _)) (pss_one (imS i_ret (ps_ret (imE (i_make (L := ["names"]) (by decide +kernel) (by decide +kernel)) (pe_makeS mk_Kind G_Named_init (hr.mono (by omega)) (by exact rfl) g_Kind b_Named_init (fun σ => passM (takesM_of rfl rfl rfl rfl) σ) (imA i_cons (pa_cons (imE i_call (pe_callS G_names_in (hr.mono (by omega)) (by exact rfl) g_names_in k_names_in b_names_in (fun σ => passM (takesM_of rfl rfl rfl rfl) σ) (imA i_cons (pa_cons (imE i_var (pv 0)) (imA i_nil pa_nil))))) (imA i_nil pa_nil)))))))) (imSs i_next pss_nil)))
    (imSs i_seq (pss_cons (imS i_ifS (ps_if (qt_cmp (om_eq hr.units) (imE i_var (pv 2)) (imE i_str pe_str) (nomark _)) (pss_one (imS i_ret (ps_ret (imE (i_make (L := ["names"]) (by decide +kernel) (by decide +kernel)) (pe_makeS mk_Place G_Named_init (hr.mono (by omega)) (by exact rfl) g_Place b_Named_init (fun σ => passM (takesM_of rfl rfl rfl rfl) σ) (imA i_cons (pa_cons (imE i_call (pe_callS G_names_in (hr.mono (by omega)) (by exact rfl) g_names_in k_names_in b_names_in (fun σ => passM (takesM_of rfl rfl rfl rfl) σ) (imA i_cons (pa_cons (imE i_var (pv 0)) (imA i_nil pa_nil))))) (imA i_nil pa_nil)))))))) (imSs i_next pss_nil)))
    (imSs i_seq (pss_cons (imS i_ifS (ps_if (qt_cmp (om_eq hr.units) (imE i_var (pv 2)) (imE i_str pe_str) (nomark _)) (pss_one (imS i_ret (ps_ret (imE (i_make (L := ["weight"]) (by decide +kernel) (by decide +kernel)) (pe_makeS mk_Least G_Least_init (hr.mono (by omega)) (by exact rfl) g_Least b_Least_init (fun σ => passM (takesM_of rfl rfl rfl rfl) σ) (imA i_cons (pa_cons (imE (i_meth0 (m := "next_number") (allF (Ns := ["Words"]) rfl (by decide +kernel))) (qe_altC (C := "Words") (qe_meth0 (imE i_var (pv 0)) c_Words h_Words_next_number G_Words_next_number (hr.mono (by omega)) b_Words_next_number (fun σ => passM (takesM_of rfl rfl rfl rfl) σ)) qe_altN)) (imA i_nil pa_nil)))))))) (imSs i_next pss_nil)))
    (imSs i_seq (pss_cons (imS i_ifS (ps_if (qt_cmp (om_eq hr.units) (imE i_var (pv 2)) (imE i_str pe_str) (nomark _)) (pss_one (imS i_ret (ps_ret (imE (i_make (L := ["fit"]) (by decide +kernel) (by decide +kernel)) (pe_makeS mk_Not G_Not_init (hr.mono (by omega)) (by exact rfl) g_Not b_Not_init (fun σ => passM (takesM_of rfl rfl rfl rfl) σ) (imA i_cons (pa_cons (imE (i_callD rvc0) (pe_callSD G_fit_in (hr.mono (by omega)) (by exact rfl) g_fit_in k_fit_in bb_fit_in_2 dv_fit_in_2 (fun σ => passM (takesM_of rfl rfl rfl rfl) σ) (imA i_cons (pa_cons (imE i_var (pv 0)) (imA i_cons (pa_cons (qe_op om_add (imE i_var (pv 1)) (imE i_int pe_int)) (imA i_nil pa_nil))))))) (imA i_nil pa_nil)))))))) (imSs i_next pss_nil)))
    (imSs i_seq (pss_cons (imS i_drop (ps_expr (imE i_call (pe_callS G_text_unless (hr.mono (by omega)) (by exact rfl) g_text_unless k_text_unless b_text_unless (fun σ => passM (takesM_of rfl rfl rfl rfl) σ) (imA i_cons (pa_cons (qe_cmp (om_eq hr.units) (imE i_var (pv 2)) (imE i_str pe_str) (nomark _)) (imA i_nil pa_nil)))))))
    (pss_one (imS i_ret (ps_ret (imE i_call (pe_callS G_several_in (hr.mono (by omega)) (by exact rfl) g_several_in k_several_in b_several_in (fun σ => passM (takesM_of rfl rfl rfl rfl) σ) (imA i_cons (pa_cons (imE i_var (pv 0)) (imA i_cons (pa_cons (qe_op om_add (imE i_var (pv 1)) (imE i_int pe_int)) (imA i_nil pa_nil))))))))))))))))))))))))))
theorem okA_several_in (d : Nat) (Z : Env K mg) {fd_fit_in : FuncData} {fd_several_in : FuncData} (F_fit_in : FunD K d_fit_in.name d_fit_in.qual d_fit_in.params d_fit_in.body d_fit_in.scope (d_fit_in.dvs K) (d_fit_in.kws K) (fAd K d_fit_in.at_) fd_fit_in) (F_several_in : FunD K d_several_in.name d_several_in.qual d_several_in.params d_several_in.body d_several_in.scope (d_several_in.dvs K) (d_several_in.kws K) (fAd K d_several_in.at_) fd_several_in) (G_fit_in : FnOk P w K mg base (CXM K P w) (5 + d) (ga K "fit_in") fd_fit_in ["words", "deep"] (spM K (q_fit_in d))) (G_several_in : FnOk P w K mg base (CXM K P w) (5 + d) (ga K "several_in") fd_several_in ["words", "deep"] (spM K (q_several_in d))) : FnOk P w K mg base (CXM K P w) (5 + d + 1) (ga K "several_in") fd_several_in ["words", "deep"] (spM K (q_several_in (d + 1))) := by
  have b_fit_in := F_fit_in
  have k_fit_in := F_fit_in.kp
  have b_several_in := bi_several_in F_several_in
  have k_several_in := F_several_in.kp
  obtain ⟨fd_Several_init, G_Several_init, b_Several_init, k_Several_init⟩ := ok_Several_init (P := P) (w := w) (base := base) Z
  obtain ⟨fd_Words_next_word, G_Words_next_word, b_Words_next_word, k_Words_next_word⟩ := ok_Words_next_word (P := P) (w := w) (base := base) Z
  obtain ⟨fd_Words_one_of, G_Words_one_of, b_Words_one_of, k_Words_one_of⟩ := ok_Words_one_of (P := P) (w := w) (base := base) Z
  obtain ⟨fd_text_unless, G_text_unless, b_text_unless, k_text_unless⟩ := ok_text_unless (P := P) (w := w) (base := base) Z
  obtain ⟨ds_fit_in_2, dv_fit_in_2, bb_fit_in_2⟩ := bn_fit_in_2 b_fit_in
  have g_Both := Z.glo 48 (x := "Both") rfl
  have g_Either := Z.glo 49 (x := "Either") rfl
  have g_fit_in := Z.glo 41 (x := "fit_in") rfl
  have g_text_unless := Z.glo 16 (x := "text_unless") rfl
  have hc : Hc K := Z.x 0 (f := hcB) rfl
  have xc : Xc K := Z.x 1 (f := xcB) rfl
  have mk_Both := mkB_ok (Z.x 6 (f := fun K => mkB K (ga K "Both") (ma K (ga K "Several") "__init__")) rfl)
  have mk_Either := mkB_ok (Z.x 7 (f := fun K => mkB K (ga K "Either") (ma K (ga K "Several") "__init__")) rfl)
  have c_Words := hc.cls (C := "Words") (by decide +kernel)
  have h_Words_next_word := meth_ok (Z.c.fact 24 (f := .meth "Words" "next_word") rfl)
  have h_Words_one_of := meth_ok (Z.c.fact 50 (f := .meth "Words" "one_of") rfl)
  rw [q_several_in_s]
  refine F_several_in.ok (CX := (CXM K P w)) sc_several_in (fun vs H Q E h => len_M h) (fun cdv A outer s H vs Q E hr h => ⟨cS K p0 (wE E) (Mo.b_several_in (q_fit_in d) (q_several_in d)), ?_, run_M rfl h⟩)
  exact (imSs i_seq (pss_cons (imS (i_asgN ⟨.inl rfl, .inl rfl⟩ (fun _ _ _ h => h)) (ps_set (i := 2) sc_several_in.nd rfl (Or.inl rfl) (imE i_lst (pe_lst (imA i_cons (pa_cons (imE (i_callD rvc0) (pe_callSD G_fit_in (hr.mono (by omega)) (by exact rfl) g_fit_in k_fit_in bb_fit_in_2 dv_fit_in_2 (fun σ => passM (takesM_of rfl rfl rfl rfl) σ) (imA i_cons (pa_cons (imE i_var (pv 0)) (imA i_cons (pa_cons (imE i_var (pv 1)) (imA i_nil pa_nil))))))) (imA i_nil pa_nil)))))))
    (imSs i_seq (pss_cons (imS (i_asgN ⟨.inl rfl, .inl rfl⟩ (fun _ _ _ h => h)) (ps_set (i := 3) sc_several_in.nd rfl (Or.inl rfl) (imE (i_meth (m := "one_of") (allF (Ns := ["Words"]) rfl (by decide +kernel))) (qe_altC (C := "Words") (qe_meth (imE i_var (pv 0)) c_Words h_Words_one_of G_Words_one_of (hr.mono (by omega)) b_Words_one_of (fun σ => passM (takesM_of rfl rfl rfl rfl) σ) (imA i_cons (pa_cons (imE i_tup (pe_tup (imA i_cons (pa_cons (imE i_str pe_str) (imA i_cons (pa_cons (imE i_str pe_str) (imA i_nil pa_nil))))))) (imA i_nil pa_nil)))) qe_altN))))
    (imSs i_seq (pss_cons (imS (i_asgN ⟨.inl rfl, .inl rfl⟩ (fun _ _ _ h => h)) (ps_set (i := 4) sc_several_in.nd rfl (Or.inl rfl) (imE i_var (pv 3))))
    (imSs i_seq (pss_cons (imS i_while (ps_while (passes_of rfl) (qt_cmp (om_eq hr.units) (imE i_var (pv 4)) (imE i_var (pv 3)) (nomark _))
    (imSs i_seq (pss_cons (imS i_drop (ps_expr (imE i_app (pe_bm PySem.F.plainAttrs_list PySem.F.slot_list_append PySem.F.type_list_append mt_append (imE i_var (pv 2)) (pa_cons (imE (i_callD rvc0) (pe_callSD G_fit_in (hr.mono (by omega)) (by exact rfl) g_fit_in k_fit_in bb_fit_in_2 dv_fit_in_2 (fun σ => passM (takesM_of rfl rfl rfl rfl) σ) (imA i_cons (pa_cons (imE i_var (pv 0)) (imA i_cons (pa_cons (imE i_var (pv 1)) (imA i_nil pa_nil))))))) pa_nil)))))
    (pss_one (imS (i_asgN ⟨.inl rfl, .inl rfl⟩ (fun _ _ _ h => h)) (ps_set (i := 4) sc_several_in.nd rfl (Or.inl rfl) (imE (i_meth0 (m := "next_word") (allF (Ns := ["Words"]) rfl (by decide +kernel))) (qe_altC (C := "Words") (qe_meth0 (imE i_var (pv 0)) c_Words h_Words_next_word G_Words_next_word (hr.mono (by omega)) b_Words_next_word (fun σ => passM (takesM_of rfl rfl rfl rfl) σ)) qe_altN)))))))))
    (imSs i_seq (pss_cons (imS i_drop (ps_expr (imE i_call (pe_callS G_text_unless (hr.mono (by omega)) (by exact rfl) g_text_unless k_text_unless b_text_unless (fun σ => passM (takesM_of rfl rfl rfl rfl) σ) (imA i_cons (pa_cons (qe_cmp (om_eq hr.units) (imE i_var (pv 4)) (imE i_str pe_str) (nomark _)) (imA i_nil pa_nil)))))))
    (imSs i_seq (pss_cons (imS i_ifS (ps_if (qt_cmp (om_eq hr.units) (imE i_var (pv 3)) (imE i_str pe_str) (nomark _)) (pss_one (imS i_ret (ps_ret (imE (i_make (L := ["fits"]) (by decide +kernel) (by decide +kernel)) (pe_makeS mk_Both G_Several_init (hr.mono (by omega)) (by exact rfl) g_Both b_Several_init (fun σ => passM (takesM_of rfl rfl rfl rfl) σ) (imA i_cons (pa_cons (imE i_var (pv 2)) (imA i_nil pa_nil)))))))) (imSs i_next pss_nil)))
    (pss_one (imS i_ret (ps_ret (imE (i_make (L := ["fits"]) (by decide +kernel) (by decide +kernel)) (pe_makeS mk_Either G_Several_init (hr.mono (by omega)) (by exact rfl) g_Either b_Several_init (fun σ => passM (takesM_of rfl rfl rfl rfl) σ) (imA i_cons (pa_cons (imE i_var (pv 2)) (imA i_nil pa_nil))))))))))))))))))))
theorem rec_fit_in (Z : Env K mg) {fd_fit_in : FuncData} {fd_several_in : FuncData} (F_fit_in : FunD K d_fit_in.name d_fit_in.qual d_fit_in.params d_fit_in.body d_fit_in.scope (d_fit_in.dvs K) (d_fit_in.kws K) (fAd K d_fit_in.at_) fd_fit_in) (F_several_in : FunD K d_several_in.name d_several_in.qual d_several_in.params d_several_in.body d_several_in.scope (d_several_in.dvs K) (d_several_in.kws K) (fAd K d_several_in.at_) fd_several_in) : ∀ d : Nat, FnOk P w K mg base (CXM K P w) (5 + d) (ga K "fit_in") fd_fit_in ["words", "deep"] (spM K (q_fit_in d)) ∧ FnOk P w K mg base (CXM K P w) (5 + d) (ga K "several_in") fd_several_in ["words", "deep"] (spM K (q_several_in d))
  | 0 => ⟨vac_ok, vac_ok⟩
  | d + 1 => by
    obtain ⟨G_fit_in, G_several_in⟩ := rec_fit_in Z F_fit_in F_several_in d
    exact ⟨okA_fit_in d Z F_fit_in F_several_in G_fit_in G_several_in, okA_several_in d Z F_fit_in F_several_in G_fit_in G_several_in⟩
theorem ok_fit_in (Z : Env K mg) : ∃ fd, FnOk P w K mg base (CXM K P w) 95 (ga K "fit_in") fd ["words", "deep"] (spM K m_fit_in) ∧ FunD K d_fit_in.name d_fit_in.qual d_fit_in.params d_fit_in.body d_fit_in.scope (d_fit_in.dvs K) (d_fit_in.kws K) (fAd K d_fit_in.at_) fd ∧ PySem.W.keepIn K (.ref (ga K "fit_in")) = true := by
  obtain ⟨fd_fit_in, F_fit_in⟩ := Z.c.def_ 29 (d := d_fit_in) rfl
  obtain ⟨fd_several_in, F_several_in⟩ := Z.c.def_ 30 (d := d_several_in) rfl
  exact ⟨fd_fit_in, (rec_fit_in Z F_fit_in F_several_in 90).1, F_fit_in, F_fit_in.kp⟩
theorem ok_several_in (Z : Env K mg) : ∃ fd, FnOk P w K mg base (CXM K P w) 95 (ga K "several_in") fd ["words", "deep"] (spM K m_several_in) ∧ Binds K fd ["words", "deep"] [] ∧ PySem.W.keepIn K (.ref (ga K "several_in")) = true := by
  obtain ⟨fd_fit_in, F_fit_in⟩ := Z.c.def_ 29 (d := d_fit_in) rfl
  obtain ⟨fd_several_in, F_several_in⟩ := Z.c.def_ 30 (d := d_several_in) rfl
  exact ⟨fd_several_in, (rec_fit_in Z F_fit_in F_several_in 90).2, bi_several_in F_several_in, F_several_in.kp⟩
theorem sc_read_by : FnScope ["text", "reader", "words", "found"] ["text", "reader"] (defScope s_read_by) := ⟨rfl, rfl, rfl, by decide +kernel, rfl, by decide +kernel, by decide +kernel⟩
theorem okA_read_by (Z : Env K mg) {fd : FuncData} (F : FunD K d_read_by.name d_read_by.qual d_read_by.params d_read_by.body d_read_by.scope (d_read_by.dvs K) (d_read_by.kws K) (fAd K d_read_by.at_) fd) : FnOk P w K mg base (L2.CX P w) 96 (ga K "read_by") fd ["text", "reader"] (spM K m_read_by) := by
  obtain ⟨fd_NoText_init, G_NoText_init, b_NoText_init, k_NoText_init⟩ := ok_NoText_init (P := P) (w := w) (base := base) Z
  obtain ⟨fd_Words_init, G_Words_init, b_Words_init, k_Words_init⟩ := ok_Words_init (P := P) (w := w) (base := base) Z
  obtain ⟨fd_Words_end, G_Words_end, b_Words_end, k_Words_end⟩ := ok_Words_end (P := P) (w := w) (base := base) Z
  obtain ⟨fd_fit_in, G_fit_in, b_fit_in, k_fit_in⟩ := ok_fit_in (P := P) (w := w) (base := base) Z
  obtain ⟨ds_NoText_init_2, dv_NoText_init_2, bb_NoText_init_2⟩ := bn_NoText_init_2 b_NoText_init
  obtain ⟨ds_fit_in_1, dv_fit_in_1, bb_fit_in_1⟩ := bn_fit_in_1 b_fit_in
  have g_NoClock := Z.glo 51 (x := "NoClock") rfl
  have g_NoFit := Z.glo 21 (x := "NoFit") rfl
  have g_NoText := Z.glo 15 (x := "NoText") rfl
  have g_NoWish := Z.glo 52 (x := "NoWish") rfl
  have g_Words := Z.glo 53 (x := "Words") rfl
  have hc : Hc K := Z.x 0 (f := hcB) rfl
  have xc : Xc K := Z.x 1 (f := xcB) rfl
  have mk_Words := mkr_ok (Z.c.fact 54 (f := .mkr "Words") rfl)
  have c_Words := hc.cls (C := "Words") (by decide +kernel)
  have h_Words_end := meth_ok (Z.c.fact 55 (f := .meth "Words" "end") rfl)
  refine F.ok (CX := (L2.CX P w)) sc_read_by (fun vs H Q E h => len_M h) (fun cdv A outer s H vs Q E hr h => ⟨cS K p0 (wE E) b_read_by, ?_, run_M rfl h⟩)
  exact (imSs i_seq (pss_cons (imS (i_asgN ⟨.inl rfl, .inl rfl⟩ (fun _ _ _ h => h)) (ps_set (i := 2) sc_read_by.nd rfl (Or.inl rfl) (imE (i_makeC (by decide +kernel)) (pe_makeS mk_Words G_Words_init (hr.mono (by decide)) (by exact rfl) g_Words b_Words_init (fun σ => passAt (takes_of rfl rfl rfl rfl) σ) (imA i_cons (pa_cons (imE i_var (pv 0)) (imA i_nil pa_nil)))))))
    (imSs i_seq (pss_cons (qs_tryR xc (Xs := ["NoClock", "NoFit", "NoWish"]) (by decide +kernel) (by decide +kernel) rfl rfl (ht_three ⟨by exact rfl, by decide, .inl g_NoClock⟩ ⟨by exact rfl, by decide, .inl g_NoFit⟩ ⟨by exact rfl, by decide, .inl g_NoWish⟩) (fun hd => L2H.passesAt_of rfl hd) (takes_of rfl rfl rfl rfl) (fun W pn xe tk po => (pss_one (imS (i_asgN ⟨.inl rfl, .inl rfl⟩ (fun _ _ _ h => h)) (ps_set (i := 3) sc_read_by.nd rfl (Or.inl rfl) (qe_callV (x := "fit_in") (rvc1 rv_int rvc0) (pe_callLS (i := 1) G_fit_in (hr.mono (by decide)) rfl (Or.inl rfl) k_fit_in bb_fit_in_1 dv_fit_in_1 (fun σ => passM tk σ) (imA i_cons (pa_cons (imE i_var (pv 2)) (imA i_nil pa_nil)))) qe_none)))))
    (fun a oe pn tk hot => (pss_one (qs_raiseHN (C := "NoText") (by decide +kernel) (rvc1 rv_int rvc0) hot tk (pmk5_oexD (xc.oex (C := "NoText") (f := "line") (by decide +kernel)).c (xc.oex (C := "NoText") (f := "line") (by decide +kernel)).i (xc.oex (C := "NoText") (f := "line") (by decide +kernel)).t (okH_NoText_init Z b_NoText_init) (L2H.roomH_mark (hr.mono (by decide)) _) hot bb_NoText_init_2 dv_NoText_init_2 pass0 (by exact rfl) g_NoText (imA i_cons (pa_cons (imE i_str pe_str) (imA i_nil pa_nil))))))))
    (imSs i_seq (pss_cons (imS i_drop (ps_expr (imE (i_meth0 (m := "end") (allF (Ns := ["Words"]) rfl (by decide +kernel))) (qe_altC (C := "Words") (qe_meth0 (imE i_var (pv 2)) c_Words h_Words_end G_Words_end (hr.mono (by decide)) b_Words_end (fun σ => passAt (takes_of rfl rfl rfl rfl) σ)) qe_altN))))
    (pss_one (imS i_ret (ps_ret (imE i_var (pv 3)))))))))))
theorem ok_read_by (Z : Env K mg) : ∃ fd, FnOk P w K mg base (L2.CX P w) 96 (ga K "read_by") fd ["text", "reader"] (spM K m_read_by) ∧ Binds K fd ["text", "reader"] [] ∧ PySem.W.keepIn K (.ref (ga K "read_by")) = true := by
  obtain ⟨fd, F⟩ := Z.c.def_ 31 (d := d_read_by) rfl
  exact ⟨fd, okA_read_by Z F, F.bindsN fun _ _ _ _ _ _ us hl => match us, hl with | [_, _], _ => rfl, F.kp⟩
theorem sc_read_fit : FnScope ["text"] ["text"] (defScope s_read_fit) := ⟨rfl, rfl, rfl, by decide +kernel, rfl, by decide +kernel, by decide +kernel⟩
theorem okA_read_fit (Z : Env K mg) {fd : FuncData} (F : FunD K d_read_fit.name d_read_fit.qual d_read_fit.params d_read_fit.body d_read_fit.scope (d_read_fit.dvs K) (d_read_fit.kws K) (fAd K d_read_fit.at_) fd) : FnOk P w K mg base (L2.CX P w) 97 (ga K "read_fit") fd ["text"] (spM K m_read_fit) := by
  obtain ⟨fd_read_by, G_read_by, b_read_by, k_read_by⟩ := ok_read_by (P := P) (w := w) (base := base) Z
  have g_fit_in := Z.glo 41 (x := "fit_in") rfl
  have g_read_by := Z.glo 56 (x := "read_by") rfl
  have hc : Hc K := Z.x 0 (f := hcB) rfl
  have xc : Xc K := Z.x 1 (f := xcB) rfl
  refine F.ok (CX := (L2.CX P w)) sc_read_fit (fun vs H Q E h => len_M h) (fun cdv A outer s H vs Q E hr h => ⟨cS K p0 (wE E) b_read_fit, ?_, run_M rfl h⟩)
  exact (pss_one (imS i_ret (ps_ret (imE i_call (pe_callS G_read_by (hr.mono (by decide)) (by exact rfl) g_read_by k_read_by b_read_by (fun σ => passAt (takes_of rfl rfl rfl rfl) σ) (imA i_cons (pa_cons (imE i_var (pv 0)) (imA i_cons (pa_cons (imE i_cls (pe_glob rfl g_fit_in rfl)) (imA i_nil pa_nil))))))))))
theorem ok_read_fit (Z : Env K mg) : ∃ fd, FnOk P w K mg base (L2.CX P w) 97 (ga K "read_fit") fd ["text"] (spM K m_read_fit) ∧ Binds K fd ["text"] [] ∧ PySem.W.keepIn K (.ref (ga K "read_fit")) = true := by
  obtain ⟨fd, F⟩ := Z.c.def_ 32 (d := d_read_fit) rfl
  exact ⟨fd, okA_read_fit Z F, F.bindsN fun _ _ _ _ _ _ us hl => match us, hl with | [_], _ => rfl, F.kp⟩
theorem sc_law_told : FnScope ["_law_text_here", "_law_found", "_law_line", "e"] ["_law_text_here"] (defScope s_law_told) := ⟨rfl, rfl, rfl, by decide +kernel, rfl, by decide +kernel, by decide +kernel⟩
theorem okA_law_told (Z : Env K mg) {fd : FuncData} (F : FunD K d_law_told.name d_law_told.qual d_law_told.params d_law_told.body d_law_told.scope (d_law_told.dvs K) (d_law_told.kws K) (fAd K d_law_told.at_) fd) : FnOk P w K mg base (L2.CX P w) 98 (ga K "_law_told") fd ["_law_text_here"] (spM K m_law_told) := by
  obtain ⟨fd_read_fit, G_read_fit, b_read_fit, k_read_fit⟩ := ok_read_fit (P := P) (w := w) (base := base) Z
  have g_NoText := Z.glo 15 (x := "NoText") rfl
  have g_read_fit := Z.glo 57 (x := "read_fit") rfl
  have hc : Hc K := Z.x 0 (f := hcB) rfl
  have xc : Xc K := Z.x 1 (f := xcB) rfl
  refine F.ok (CX := (L2.CX P w)) sc_law_told (fun vs H Q E h => len_M h) (fun cdv A outer s H vs Q E hr h => ⟨cS K p0 (wE E) b_law_told, ?_, run_M rfl h⟩)
  exact (imSs i_seq (pss_cons (imS (i_asgN ⟨.inl rfl, .inl rfl⟩ (fun _ _ _ h => h)) (ps_set (i := 1) sc_law_told.nd rfl (Or.inl rfl) (imE i_non pe_non)))
    (imSs i_seq (pss_cons (imS (i_asgN ⟨.inl rfl, .inl rfl⟩ (fun _ _ _ h => h)) (ps_set (i := 2) sc_law_told.nd rfl (Or.inl rfl) (imE (i_un sim_neg) (pe_un un_neg (imE i_int pe_int)))))
    (imSs i_seq (pss_cons (imS (i_try xc (X := "NoText") (by decide +kernel) rfl ⟨.inl rfl, .inl rfl⟩) (ps_try_as (i := 3) rfl rfl sc_law_told.nd rfl rfl ⟨by exact rfl, by decide, .inl g_NoText⟩ (takes_of rfl rfl rfl rfl) (fun W pn xe tk po => (pss_one (imS (i_asgN ⟨.inl rfl, .inl rfl⟩ (fun _ _ _ h => h)) (ps_set (i := 1) sc_law_told.nd rfl (Or.inl rfl) (imE i_call (pe_callS G_read_fit (hr.mono (by decide)) (by exact rfl) g_read_fit k_read_fit b_read_fit (fun σ => passAt tk σ) (imA i_cons (pa_cons (imE i_var (pv 0)) (imA i_nil pa_nil)))))))))
    (fun a oe cls d pn hz hf => (pss_one (imS (i_asgN ⟨.inl rfl, .inr (show (2 : Nat) ≠ 3 from by decide)⟩ (fun _ _ _ h => h)) (ps_set (i := 2) sc_law_told.nd rfl (Or.inl rfl) (imE i_fldE (pe_altX xc hz hf (pv 3) rfl ["NoText"] (by decide +kernel)))))))))
    (pss_one (imS i_ret (ps_ret (imE i_tup (pe_tup (imA i_cons (pa_cons (imE i_var (pv 1)) (imA i_cons (pa_cons (imE i_var (pv 2)) (imA i_nil pa_nil))))))))))))))))
theorem ok_law_told (Z : Env K mg) : ∃ fd, FnOk P w K mg base (L2.CX P w) 98 (ga K "_law_told") fd ["_law_text_here"] (spM K m_law_told) ∧ Binds K fd ["_law_text_here"] [] ∧ PySem.W.keepIn K (.ref (ga K "_law_told")) = true := by
  obtain ⟨fd, F⟩ := Z.c.def_ 33 (d := d_law_told) rfl
  exact ⟨fd, okA_law_told Z F, F.bindsN fun _ _ _ _ _ _ us hl => match us, hl with | [_], _ => rfl, F.kp⟩
theorem sc_law_text : FnScope ["_law_tree_here", "_law_sign", "_law_part"] ["_law_tree_here"] (defScope s_law_text) := ⟨rfl, rfl, rfl, by decide +kernel, rfl, by decide +kernel, by decide +kernel⟩
theorem bi_law_text {fd : FuncData} (F : FunD K d_law_text.name d_law_text.qual d_law_text.params d_law_text.body d_law_text.scope (d_law_text.dvs K) (d_law_text.kws K) (fAd K d_law_text.at_) fd) : Binds K fd ["_law_tree_here"] [] := F.bindsN fun _ _ _ _ _ _ us hl => match us, hl with | [_], _ => rfl
theorem okA_law_text (d : Nat) (Z : Env K mg) {fd_law_text : FuncData} (F_law_text : FunD K d_law_text.name d_law_text.qual d_law_text.params d_law_text.body d_law_text.scope (d_law_text.dvs K) (d_law_text.kws K) (fAd K d_law_text.at_) fd_law_text) (G_law_text : FnOk P w K mg base (L2.CX P w) (0 + d) (ga K "_law_text") fd_law_text ["_law_tree_here"] (spM K (q_law_text d))) : FnOk P w K mg base (L2.CX P w) (0 + d + 1) (ga K "_law_text") fd_law_text ["_law_tree_here"] (spM K (q_law_text (d + 1))) := by
  have b_law_text := bi_law_text F_law_text
  have k_law_text := F_law_text.kp
  have g__law_text := Z.glo 58 (x := "_law_text") rfl
  have z_int := Z.free 11 (x := "int") rfl
  have z_str := Z.free 18 (x := "str") rfl
  have hc : Hc K := Z.x 0 (f := hcB) rfl
  have xc : Xc K := Z.x 1 (f := xcB) rfl
  rw [q_law_text_s]
  refine F_law_text.ok (CX := (L2.CX P w)) sc_law_text (fun vs H Q E h => len_M h) (fun cdv A outer s H vs Q E hr h => ⟨cS K p0 (wE E) (Mo.b_law_text (q_law_text d)), ?_, run_M rfl h⟩)
  exact (imSs i_seq (pss_cons (imS i_ifS (ps_if (qt_cmp (om_eq hr.units) (qe_ix (imE i_var (pv 0)) (imE i_int pe_int) (fun _ _ => rfl)) (imE i_str pe_str) (nomark _)) (pss_one (imS i_ret (ps_ret (imE i_str pe_str)))) (imSs i_next pss_nil)))
    (imSs i_seq (pss_cons (imS i_ifS (ps_if (PW.pt (imW i_uOr (pw_or (qt_cmp (om_eq hr.units) (qe_ix (imE i_var (pv 0)) (imE i_int pe_int) (fun _ _ => rfl)) (imE i_str pe_str) (nomark _)) (pw_or1 (qt_cmp (om_eq hr.units) (qe_ix (imE i_var (pv 0)) (imE i_int pe_int) (fun _ _ => rfl)) (imE i_str pe_str) (nomark _)))))) (pss_one (imS i_ret (ps_ret (qe_op om_add (qe_op om_add (qe_ix (imE i_var (pv 0)) (imE i_int pe_int) (fun _ _ => rfl)) (imE i_str pe_str)) (imE i_join (pe_join (imE i_str pe_str) (qe_ix (imE i_var (pv 0)) (imE i_int pe_int) (fun _ _ => rfl)))))))) (imSs i_next pss_nil)))
    (imSs i_seq (pss_cons (imS i_ifS (ps_if (qt_cmp (om_eq hr.units) (qe_ix (imE i_var (pv 0)) (imE i_int pe_int) (fun _ _ => rfl)) (imE i_str pe_str) (nomark _)) (pss_one (imS i_ret (ps_ret (qe_op om_add (imE i_str pe_str) (qe_cb cm_str fun _ q => pe_callTy q (by rfl) z_str (by decide +kernel) (imA i_cons (pa_cons (qe_ix (imE i_var (pv 0)) (imE i_int pe_int) (fun _ _ => rfl)) (imA i_nil pa_nil)))))))) (imSs i_next pss_nil)))
    (imSs i_seq (pss_cons (imS i_ifS (ps_if (qt_cmp (om_eq hr.units) (qe_ix (imE i_var (pv 0)) (imE i_int pe_int) (fun _ _ => rfl)) (imE i_str pe_str) (nomark _)) (pss_one (imS i_ret (ps_ret (qe_op om_add (imE i_str pe_str) (imE i_call (pe_callS G_law_text (hr.mono (by omega)) (by exact rfl) g__law_text k_law_text b_law_text (fun σ => passAt (takes_of rfl rfl rfl rfl) σ) (imA i_cons (pa_cons (qe_ix (imE i_var (pv 0)) (imE i_int pe_int) (fun _ _ => rfl)) (imA i_nil pa_nil))))))))) (imSs i_next pss_nil)))
    (imSs i_seq (pss_cons (imS (i_asgN ⟨.inl rfl, .inl rfl⟩ (fun _ _ _ h => h)) (ps_set (i := 1) sc_law_text.nd rfl (Or.inl rfl) (qe_ix (imE i_lst (pe_lst (imA i_cons (pa_cons (imE i_str pe_str) (imA i_cons (pa_cons (imE i_str pe_str) (imA i_nil pa_nil))))))) (qe_cb cm_int fun _ q => pe_callTy q (by rfl) z_int (by decide +kernel) (imA i_cons (pa_cons (qe_cmp (om_eq hr.units) (qe_ix (imE i_var (pv 0)) (imE i_int pe_int) (fun _ _ => rfl)) (imE i_str pe_str) (nomark _)) (imA i_nil pa_nil)))) (fun _ _ => rfl))))
    (pss_one (imS i_ret (ps_ret (qe_op om_add (qe_op om_add (imE i_str pe_str) (imE i_join (pe_join (imE i_var (pv 1)) (imE (i_lc (fun _ _ => ⟨.inl rfl, .inl rfl⟩) (fun _ h => h)) (pe_lc (own := [("_law_part", 2)]) rfl sc_law_text.nd (qi_D (qe_ix (imE i_var (pv 0)) (imE i_int pe_int) (fun _ _ => rfl))) (blkOk_by (own := [("_law_part", 2)]) (N := ["_law_tree_here", "_law_sign", "_law_part"]) (sc := defScope s_law_text) (by decide +kernel)) (fun _ _ _ _ _ => (imG (i_hNm ⟨.inl rfl, .inl rfl⟩) (pg_name (i := 2) sc_law_text.nd rfl (Or.inl rfl)))) (fun _ _ _ _ _ => (imTs i_uYes pts_nil)) (fun _ _ _ _ _ => (imE i_call (pe_callS G_law_text (hr.mono (by omega)) (by exact rfl) g__law_text k_law_text b_law_text (fun σ => passAt takes0 σ) (imA i_cons (pa_cons (imE i_var (pv 2)) (imA i_nil pa_nil))))))))))) (imE i_str pe_str)))))))))))))))
theorem rec_law_text (Z : Env K mg) {fd_law_text : FuncData} (F_law_text : FunD K d_law_text.name d_law_text.qual d_law_text.params d_law_text.body d_law_text.scope (d_law_text.dvs K) (d_law_text.kws K) (fAd K d_law_text.at_) fd_law_text) : ∀ d : Nat, FnOk P w K mg base (L2.CX P w) (0 + d) (ga K "_law_text") fd_law_text ["_law_tree_here"] (spM K (q_law_text d))
  | 0 => vac_ok
  | d + 1 => by
    have G_law_text := rec_law_text Z F_law_text d
    exact okA_law_text d Z F_law_text G_law_text
theorem ok_law_text (Z : Env K mg) : ∃ fd, FnOk P w K mg base (L2.CX P w) 50 (ga K "_law_text") fd ["_law_tree_here"] (spM K m_law_text) ∧ Binds K fd ["_law_tree_here"] [] ∧ PySem.W.keepIn K (.ref (ga K "_law_text")) = true := by
  obtain ⟨fd_law_text, F_law_text⟩ := Z.c.def_ 34 (d := d_law_text) rfl
  exact ⟨fd_law_text, (rec_law_text Z F_law_text 50), bi_law_text F_law_text, F_law_text.kp⟩
theorem sc_law_name : FnScope ["_law_state", "_law_letters", "_law_way", "_law_some", "_law_word_here", "_law_at", "_law_k"] ["_law_state"] (defScope s_law_name) := ⟨rfl, rfl, rfl, by decide +kernel, rfl, by decide +kernel, by decide +kernel⟩
theorem okA_law_name (Z : Env K mg) {fd : FuncData} (F : FunD K d_law_name.name d_law_name.qual d_law_name.params d_law_name.body d_law_name.scope (d_law_name.dvs K) (d_law_name.kws K) (fAd K d_law_name.at_) fd) : FnOk P w K mg base (L2.CX P w) 2 (ga K "_law_name") fd ["_law_state"] (spM K m_law_name) := by
  obtain ⟨fd_law_next, G_law_next, b_law_next, k_law_next⟩ := ok_law_next (P := P) (w := w) (base := base) Z
  have g__law_next := Z.glo 0 (x := "_law_next") rfl
  have z_len := Z.free 2 (x := "len") rfl
  have z_range := Z.free 5 (x := "range") rfl
  have hc : Hc K := Z.x 0 (f := hcB) rfl
  have xc : Xc K := Z.x 1 (f := xcB) rfl
  refine F.ok (CX := (L2.CX P w)) sc_law_name (fun vs H Q E h => len_M h) (fun cdv A outer s H vs Q E hr h => ⟨cS K p0 (wE E) b_law_name, ?_, run_M rfl h⟩)
  exact (imSs i_seq (pss_cons (imS (i_asgN ⟨.inl rfl, .inl rfl⟩ (fun _ _ _ h => h)) (ps_set (i := 1) sc_law_name.nd rfl (Or.inr rfl) (imE i_str pe_str)))
    (imSs i_seq (pss_cons (imS (i_asgN ⟨.inl rfl, .inl rfl⟩ (fun _ _ _ h => h)) (ps_set (i := 2) sc_law_name.nd rfl (Or.inl rfl) (imE i_call (pe_callS G_law_next (hr.mono (by decide)) (by exact rfl) g__law_next k_law_next b_law_next (fun σ => passAt (takes_of rfl rfl rfl rfl) σ) (imA i_cons (pa_cons (imE i_var (pv 0)) (imA i_cons (pa_cons (imE i_int pe_int) (imA i_nil pa_nil)))))))))
    (imSs i_seq (pss_cons (imS i_ifS (ps_if (qt_cmp (om_eq hr.units) (imE i_var (pv 2)) (imE i_int pe_int) (nomark _)) (imSs i_seq (pss_cons (imS (i_asgN ⟨.inl rfl, .inl rfl⟩ (fun _ _ _ h => h)) (ps_set (i := 3) sc_law_name.nd rfl (Or.inl rfl) (imE i_lst (pe_lst (imA i_cons (pa_cons (imE i_str pe_str) (imA i_cons (pa_cons (imE i_str pe_str) (imA i_cons (pa_cons (imE i_str pe_str) (imA i_cons (pa_cons (imE i_str pe_str) (imA i_cons (pa_cons (imE i_str pe_str) (imA i_cons (pa_cons (imE i_str pe_str) (imA i_cons (pa_cons (imE i_str pe_str) (imA i_cons (pa_cons (imE i_str pe_str) (imA i_cons (pa_cons (imE i_str pe_str) (imA i_cons (pa_cons (imE i_str pe_str) (imA i_cons (pa_cons (imE i_str pe_str) (imA i_cons (pa_cons (imE i_str pe_str) (imA i_cons (pa_cons (imE i_str pe_str) (imA i_nil pa_nil)))))))))))))))))))))))))))))))
    (pss_one (imS i_ret (ps_ret (qe_ix (qe_op om_add (imE i_var (pv 3)) (imE i_lst (pe_lst (imA i_cons (pa_cons (imE i_str pe_str) (imA i_cons (pa_cons (imE i_str pe_str) (imA i_cons (pa_cons (imE i_str pe_str) (imA i_nil pa_nil)))))))))) (imE i_call (pe_callS G_law_next (hr.mono (by decide)) (by exact rfl) g__law_next k_law_next b_law_next (fun σ => passAt (takes_of rfl rfl rfl rfl) σ) (imA i_cons (pa_cons (imE i_var (pv 0)) (imA i_cons (pa_cons (imE i_int pe_int) (imA i_nil pa_nil))))))) (fun _ _ => rfl))))))) (imSs i_next pss_nil)))
    (imSs i_seq (pss_cons (imS i_ifS (ps_if (qt_cmp (om_eq hr.units) (imE i_var (pv 2)) (imE i_int pe_int) (nomark _)) (imSs i_seq (pss_cons (imS (i_asgN ⟨.inl rfl, .inl rfl⟩ (fun _ _ _ h => h)) (ps_set (i := 4) sc_law_name.nd rfl (Or.inl rfl) (qe_sl (imE i_str pe_str) (imO i_oNone po_none) (imO i_oSome (po_some (qe_op om_add (imE i_int pe_int) (imE i_call (pe_callS G_law_next (hr.mono (by decide)) (by exact rfl) g__law_next k_law_next b_law_next (fun σ => passAt (takes_of rfl rfl rfl rfl) σ) (imA i_cons (pa_cons (imE i_var (pv 0)) (imA i_cons (pa_cons (imE i_int pe_int) (imA i_nil pa_nil)))))))))))))
    (imSs i_seq (pss_cons (imS (i_asgN ⟨.inl rfl, .inl rfl⟩ (fun _ _ _ h => h)) (ps_set (i := 5) sc_law_name.nd rfl (Or.inl rfl) (imE i_call (pe_callS G_law_next (hr.mono (by decide)) (by exact rfl) g__law_next k_law_next b_law_next (fun σ => passAt (takes_of rfl rfl rfl rfl) σ) (imA i_cons (pa_cons (imE i_var (pv 0)) (imA i_cons (pa_cons (qe_cb cm_len fun _ q => pe_callB q (by rfl) z_len (by decide +kernel) (imA i_cons (pa_cons (imE i_var (pv 4)) (imA i_nil pa_nil)))) (imA i_nil pa_nil)))))))))
    (pss_one (imS i_ret (ps_ret (qe_op om_add (qe_op om_add (qe_sl (imE i_var (pv 4)) (imO i_oNone po_none) (imO i_oSome (po_some (imE i_var (pv 5))))) (qe_ix (imE i_str pe_str) (imE i_call (pe_callS G_law_next (hr.mono (by decide)) (by exact rfl) g__law_next k_law_next b_law_next (fun σ => passAt (takes_of rfl rfl rfl rfl) σ) (imA i_cons (pa_cons (imE i_var (pv 0)) (imA i_cons (pa_cons (imE i_int pe_int) (imA i_nil pa_nil))))))) (fun _ _ => rfl))) (qe_sl (imE i_var (pv 4)) (imO i_oSome (po_some (qe_op om_add (imE i_var (pv 5)) (imE i_int pe_int)))) (imO i_oNone po_none)))))))))) (imSs i_next pss_nil)))
    (pss_one (imS i_ret (ps_ret (imE i_join (pe_join (imE i_str pe_str) (imE (i_lc (fun _ _ => ⟨.inl rfl, .inl rfl⟩) (fun _ h => h)) (pe_lc (own := [("_law_k", 6)]) rfl sc_law_name.nd (imI i_wRng1 (pi_range1 rfl z_range (imA i_cons (pa_cons (qe_op om_add (imE i_int pe_int) (imE i_call (pe_callS G_law_next (hr.mono (by decide)) (by exact rfl) g__law_next k_law_next b_law_next (fun σ => passAt (takes_of rfl rfl rfl rfl) σ) (imA i_cons (pa_cons (imE i_var (pv 0)) (imA i_cons (pa_cons (imE i_int pe_int) (imA i_nil pa_nil)))))))) (imA i_nil pa_nil))))) (blkOk_by (own := [("_law_k", 6)]) (N := ["_law_state", "_law_letters", "_law_way", "_law_some", "_law_word_here", "_law_at", "_law_k"]) (sc := defScope s_law_name) (by decide +kernel)) (fun _ _ _ _ _ => (imG (i_hNm ⟨.inl rfl, .inl rfl⟩) (pg_name (i := 6) sc_law_name.nd rfl (Or.inl rfl)))) (fun _ _ _ _ _ => (imTs i_uYes pts_nil)) (fun _ _ _ _ _ => (qe_ix (imE i_var (pv 1)) (imE i_call (pe_callS G_law_next (hr.mono (by decide)) (by exact rfl) g__law_next k_law_next b_law_next (fun σ => passAt takes0 σ) (imA i_cons (pa_cons (imE i_var (pv 0)) (imA i_cons (pa_cons (imE i_int pe_int) (imA i_nil pa_nil))))))) (fun _ _ => rfl))))))))))))))))))
theorem ok_law_name (Z : Env K mg) : ∃ fd, FnOk P w K mg base (L2.CX P w) 2 (ga K "_law_name") fd ["_law_state"] (spM K m_law_name) ∧ Binds K fd ["_law_state"] [] ∧ PySem.W.keepIn K (.ref (ga K "_law_name")) = true := by
  obtain ⟨fd, F⟩ := Z.c.def_ 35 (d := d_law_name) rfl
  exact ⟨fd, okA_law_name Z F, F.bindsN fun _ _ _ _ _ _ us hl => match us, hl with | [_], _ => rfl, F.kp⟩
theorem sc_law_leaf : FnScope ["_law_state", "_law_more", "_law_kind", "_law_names_here", "_law_k", "_law_name_here"] ["_law_state", "_law_more"] (defScope s_law_leaf) := ⟨rfl, rfl, rfl, by decide +kernel, rfl, by decide +kernel, by decide +kernel⟩
theorem okA_law_leaf (Z : Env K mg) {fd : FuncData} (F : FunD K d_law_leaf.name d_law_leaf.qual d_law_leaf.params d_law_leaf.body d_law_leaf.scope (d_law_leaf.dvs K) (d_law_leaf.kws K) (fAd K d_law_leaf.at_) fd) : FnOk P w K mg base (L2.CX P w) 3 (ga K "_law_leaf") fd ["_law_state", "_law_more"] (spM K m_law_leaf) := by
  obtain ⟨fd_law_name, G_law_name, b_law_name, k_law_name⟩ := ok_law_name (P := P) (w := w) (base := base) Z
  obtain ⟨fd_law_next, G_law_next, b_law_next, k_law_next⟩ := ok_law_next (P := P) (w := w) (base := base) Z
  have g__law_name := Z.glo 59 (x := "_law_name") rfl
  have g__law_next := Z.glo 0 (x := "_law_next") rfl
  have z_range := Z.free 5 (x := "range") rfl
  have z_tuple := Z.free 13 (x := "tuple") rfl
  have hc : Hc K := Z.x 0 (f := hcB) rfl
  have xc : Xc K := Z.x 1 (f := xcB) rfl
  refine F.ok (CX := (L2.CX P w)) sc_law_leaf (fun vs H Q E h => len_M h) (fun cdv A outer s H vs Q E hr h => ⟨cS K p0 (wE E) b_law_leaf, ?_, run_M rfl h⟩)
  exact (imSs i_seq (pss_cons (imS (i_asgN ⟨.inl rfl, .inl rfl⟩ (fun _ _ _ h => h)) (ps_set (i := 2) sc_law_leaf.nd rfl (Or.inl rfl) (imE i_call (pe_callS G_law_next (hr.mono (by decide)) (by exact rfl) g__law_next k_law_next b_law_next (fun σ => passAt (takes_of rfl rfl rfl rfl) σ) (imA i_cons (pa_cons (imE i_var (pv 0)) (imA i_cons (pa_cons (imE i_int pe_int) (imA i_nil pa_nil)))))))))
    (imSs i_seq (pss_cons (imS i_ifS (ps_if (qt_cmp (om_eq hr.units) (imE i_var (pv 2)) (imE i_int pe_int) (nomark _)) (pss_one (imS i_ret (ps_ret (imE i_tup (pe_tup (imA i_cons (pa_cons (imE i_str pe_str) (imA i_nil pa_nil)))))))) (imSs i_next pss_nil)))
    (imSs i_seq (pss_cons (imS i_ifS (ps_if (qt_cmp om_lt (imE i_var (pv 2)) (imE i_int pe_int) (nomark _)) (pss_one (imS i_ret (ps_ret (imE i_tup (pe_tup (imA i_cons (pa_cons (imE i_str pe_str) (imA i_cons (pa_cons (qe_ix (imE i_lst (pe_lst (imA i_cons (pa_cons (imE i_call (pe_callS G_law_next (hr.mono (by decide)) (by exact rfl) g__law_next k_law_next b_law_next (fun σ => passAt (takes_of rfl rfl rfl rfl) σ) (imA i_cons (pa_cons (imE i_var (pv 0)) (imA i_cons (pa_cons (imE i_int pe_int) (imA i_nil pa_nil))))))) (imA i_cons (pa_cons (imE i_call (pe_callS G_law_next (hr.mono (by decide)) (by exact rfl) g__law_next k_law_next b_law_next (fun σ => passAt (takes_of rfl rfl rfl rfl) σ) (imA i_cons (pa_cons (imE i_var (pv 0)) (imA i_cons (pa_cons (imE i_int (pe_pow2 (r := 1000000) (by decide) ⟨by decide, by decide, by decide⟩)) (imA i_nil pa_nil))))))) (imA i_nil pa_nil))))))) (qe_op om_div (imE i_call (pe_callS G_law_next (hr.mono (by decide)) (by exact rfl) g__law_next k_law_next b_law_next (fun σ => passAt (takes_of rfl rfl rfl rfl) σ) (imA i_cons (pa_cons (imE i_var (pv 0)) (imA i_cons (pa_cons (imE i_int pe_int) (imA i_nil pa_nil))))))) (imE i_int pe_int)) (fun _ _ => rfl)) (imA i_nil pa_nil)))))))))) (imSs i_next pss_nil)))
    (imSs i_seq (pss_cons (imS (i_asgN ⟨.inl rfl, .inl rfl⟩ (fun _ _ _ h => h)) (ps_set (i := 3) sc_law_leaf.nd rfl (Or.inl rfl) (imE i_lst (pe_lst (imA i_cons (pa_cons (imE i_call (pe_callS G_law_name (hr.mono (by decide)) (by exact rfl) g__law_name k_law_name b_law_name (fun σ => passAt (takes_of rfl rfl rfl rfl) σ) (imA i_cons (pa_cons (imE i_var (pv 0)) (imA i_nil pa_nil))))) (imA i_nil pa_nil)))))))
    (imSs i_seq (pss_cons (imS i_for (ps_for (passes_of rfl) rfl (imI i_wRng1 (pi_range1 rfl z_range (imA i_cons (pa_cons (imE i_call (pe_callS G_law_next (hr.mono (by decide)) (by exact rfl) g__law_next k_law_next b_law_next (fun σ => passAt (takes_of rfl rfl rfl rfl) σ) (imA i_cons (pa_cons (imE i_var (pv 0)) (imA i_cons (pa_cons (qe_op om_add (imE i_int pe_int) (imE i_var (pv 1))) (imA i_nil pa_nil))))))) (imA i_nil pa_nil))))) (imG (i_hNm ⟨.inl rfl, .inl rfl⟩) (pg_name (i := 4) sc_law_leaf.nd rfl (Or.inl rfl)))
    (imSs i_seq (pss_cons (imS (i_asgN ⟨.inl rfl, .inl rfl⟩ (fun _ _ _ h => h)) (ps_set (i := 5) sc_law_leaf.nd rfl (Or.inl rfl) (imE i_call (pe_callS G_law_name (hr.mono (by decide)) (by exact rfl) g__law_name k_law_name b_law_name (fun σ => passAt (takes_of rfl rfl rfl rfl) σ) (imA i_cons (pa_cons (imE i_var (pv 0)) (imA i_nil pa_nil)))))))
    (pss_one (imS i_ifS (ps_if (qt_cmp om_notIn (imE i_var (pv 5)) (imE i_var (pv 3)) (by rfl)) (pss_one (imS i_drop (ps_expr (imE i_app (pe_bm PySem.F.plainAttrs_list PySem.F.slot_list_append PySem.F.type_list_append mt_append (imE i_var (pv 3)) (pa_cons (imE i_var (pv 5)) pa_nil)))))) (imSs i_next pss_nil))))))))
    (pss_one (imS i_ret (ps_ret (imE i_tup (pe_tup (imA i_cons (pa_cons (qe_ix (imE i_lst (pe_lst (imA i_cons (pa_cons (imE i_str pe_str) (imA i_cons (pa_cons (imE i_str pe_str) (imA i_nil pa_nil))))))) (qe_op om_mod (imE i_var (pv 2)) (imE i_int pe_int)) (fun _ _ => rfl)) (imA i_cons (pa_cons (qe_cb cm_tup fun _ q => pe_callTy q (by rfl) z_tuple (by decide +kernel) (imA i_cons (pa_cons (imE i_var (pv 3)) (imA i_nil pa_nil)))) (imA i_nil pa_nil))))))))))))))))))))
theorem ok_law_leaf (Z : Env K mg) : ∃ fd, FnOk P w K mg base (L2.CX P w) 3 (ga K "_law_leaf") fd ["_law_state", "_law_more"] (spM K m_law_leaf) ∧ Binds K fd ["_law_state", "_law_more"] [] ∧ PySem.W.keepIn K (.ref (ga K "_law_leaf")) = true := by
  obtain ⟨fd, F⟩ := Z.c.def_ 36 (d := d_law_leaf) rfl
  exact ⟨fd, okA_law_leaf Z F, F.bindsN fun _ _ _ _ _ _ us hl => match us, hl with | [_, _], _ => rfl, F.kp⟩
theorem sc_law_tree : FnScope ["_law_state", "_law_deep", "_law_more", "_law_kind", "_law_parts", "_law_k"] ["_law_state", "_law_deep", "_law_more"] (defScope s_law_tree) := ⟨rfl, rfl, rfl, by decide +kernel, rfl, by decide +kernel, by decide +kernel⟩
theorem bi_law_tree {fd : FuncData} (F : FunD K d_law_tree.name d_law_tree.qual d_law_tree.params d_law_tree.body d_law_tree.scope (d_law_tree.dvs K) (d_law_tree.kws K) (fAd K d_law_tree.at_) fd) : Binds K fd ["_law_state", "_law_deep", "_law_more"] [] := F.bindsN fun _ _ _ _ _ _ us hl => match us, hl with | [_, _, _], _ => rfl
theorem okA_law_tree (d : Nat) (Z : Env K mg) {fd_law_tree : FuncData} (F_law_tree : FunD K d_law_tree.name d_law_tree.qual d_law_tree.params d_law_tree.body d_law_tree.scope (d_law_tree.dvs K) (d_law_tree.kws K) (fAd K d_law_tree.at_) fd_law_tree) (G_law_tree : FnOk P w K mg base (L2.CX P w) (3 + d) (ga K "_law_tree") fd_law_tree ["_law_state", "_law_deep", "_law_more"] (spM K (q_law_tree d))) : FnOk P w K mg base (L2.CX P w) (3 + d + 1) (ga K "_law_tree") fd_law_tree ["_law_state", "_law_deep", "_law_more"] (spM K (q_law_tree (d + 1))) := by
  have b_law_tree := bi_law_tree F_law_tree
  have k_law_tree := F_law_tree.kp
  obtain ⟨fd_law_leaf, G_law_leaf, b_law_leaf, k_law_leaf⟩ := ok_law_leaf (P := P) (w := w) (base := base) Z
  obtain ⟨fd_law_next, G_law_next, b_law_next, k_law_next⟩ := ok_law_next (P := P) (w := w) (base := base) Z
  have g__law_leaf := Z.glo 60 (x := "_law_leaf") rfl
  have g__law_next := Z.glo 0 (x := "_law_next") rfl
  have g__law_tree := Z.glo 61 (x := "_law_tree") rfl
  have z_int := Z.free 11 (x := "int") rfl
  have z_range := Z.free 5 (x := "range") rfl
  have z_tuple := Z.free 13 (x := "tuple") rfl
  have hc : Hc K := Z.x 0 (f := hcB) rfl
  have xc : Xc K := Z.x 1 (f := xcB) rfl
  rw [q_law_tree_s]
  refine F_law_tree.ok (CX := (L2.CX P w)) sc_law_tree (fun vs H Q E h => len_M h) (fun cdv A outer s H vs Q E hr h => ⟨cS K p0 (wE E) (Mo.b_law_tree (q_law_tree d)), ?_, run_M rfl h⟩)
  exact (imSs i_seq (pss_cons (imS (i_asgN ⟨.inl rfl, .inl rfl⟩ (fun _ _ _ h => h)) (ps_set (i := 3) sc_law_tree.nd rfl (Or.inl rfl) (imE i_call (pe_callS G_law_next (hr.mono (by omega)) (by exact rfl) g__law_next k_law_next b_law_next (fun σ => passAt (takes_of rfl rfl rfl rfl) σ) (imA i_cons (pa_cons (imE i_var (pv 0)) (imA i_cons (pa_cons (imE i_int pe_int) (imA i_nil pa_nil)))))))))
    (imSs i_seq (pss_cons (imS i_ifS (ps_if (PW.pt (imW i_uOr (pw_or (qt_cmp (om_eq hr.units) (imE i_var (pv 1)) (imE i_int pe_int) (nomark _)) (pw_or1 (qt_cmp om_lt (imE i_var (pv 3)) (imE i_int pe_int) (nomark _)))))) (pss_one (imS i_ret (ps_ret (imE i_call (pe_callS G_law_leaf (hr.mono (by omega)) (by exact rfl) g__law_leaf k_law_leaf b_law_leaf (fun σ => passAt (takes_of rfl rfl rfl rfl) σ) (imA i_cons (pa_cons (imE i_var (pv 0)) (imA i_cons (pa_cons (qe_op om_mul (imE i_var (pv 2)) (qe_cb cm_int fun _ q => pe_callTy q (by rfl) z_int (by decide +kernel) (imA i_cons (pa_cons (qe_cmp om_gt (imE i_var (pv 1)) (imE i_int pe_int) (nomark _)) (imA i_nil pa_nil))))) (imA i_nil pa_nil)))))))))) (imSs i_next pss_nil)))
    (imSs i_seq (pss_cons (imS i_ifS (ps_if (qt_cmp (om_eq hr.units) (imE i_var (pv 3)) (imE i_int pe_int) (nomark _)) (pss_one (imS i_ret (ps_ret (imE i_tup (pe_tup (imA i_cons (pa_cons (imE i_str pe_str) (imA i_cons (pa_cons (imE i_call (pe_callS G_law_tree (hr.mono (by omega)) (by exact rfl) g__law_tree k_law_tree b_law_tree (fun σ => passAt (takes_of rfl rfl rfl rfl) σ) (imA i_cons (pa_cons (imE i_var (pv 0)) (imA i_cons (pa_cons (qe_op om_sub (imE i_var (pv 1)) (imE i_int pe_int)) (imA i_cons (pa_cons (imE i_var (pv 2)) (imA i_nil pa_nil))))))))) (imA i_nil pa_nil)))))))))) (imSs i_next pss_nil)))
    (imSs i_seq (pss_cons (imS (i_asgN ⟨.inl rfl, .inl rfl⟩ (i_lc (fun _ _ => ⟨.inl rfl, .inl rfl⟩) (fun _ h => h))) (ps_setLc (i := 4) (own := [("_law_k", 5)]) rfl sc_law_tree.nd rfl rfl (sw_true rfl rfl rfl (by decide +kernel)) (imI i_wRng1 (pi_range1 rfl z_range (imA i_cons (pa_cons (qe_op om_add (imE i_int pe_int) (qe_cb cm_int fun _ q => pe_callTy q (by rfl) z_int (by decide +kernel) (imA i_cons (pa_cons (imE i_and (pe_and (qe_cmp om_gt (imE i_var (pv 1)) (imE i_int pe_int) (nomark _)) (pe_one (qe_cmp om_gt (imE i_var (pv 3)) (imE i_int pe_int) (nomark _))))) (imA i_nil pa_nil))))) (imA i_nil pa_nil))))) (blkOk_by (own := [("_law_k", 5)]) (N := ["_law_state", "_law_deep", "_law_more", "_law_kind", "_law_parts", "_law_k"]) (sc := defScope s_law_tree) (by decide +kernel)) (fun _ _ _ _ _ => (imG (i_hNm ⟨.inl rfl, .inl rfl⟩) (pg_name (i := 5) sc_law_tree.nd rfl (Or.inl rfl)))) (fun _ _ _ _ _ => (imTs i_uYes pts_nil)) (fun _ _ _ _ _ => (imE i_call (pe_callS G_law_tree (hr.mono (by omega)) (by exact rfl) g__law_tree k_law_tree b_law_tree (fun σ => passAt takes0 σ) (imA i_cons (pa_cons (imE i_var (pv 0)) (imA i_cons (pa_cons (qe_op om_sub (imE i_var (pv 1)) (imE i_int pe_int)) (imA i_cons (pa_cons (imE i_var (pv 2)) (imA i_nil pa_nil))))))))))))
    (pss_one (imS i_ret (ps_ret (imE i_tup (pe_tup (imA i_cons (pa_cons (qe_ix (imE i_lst (pe_lst (imA i_cons (pa_cons (imE i_str pe_str) (imA i_cons (pa_cons (imE i_str pe_str) (imA i_nil pa_nil))))))) (qe_op om_mod (imE i_var (pv 3)) (imE i_int pe_int)) (fun _ _ => rfl)) (imA i_cons (pa_cons (qe_cb cm_tup fun _ q => pe_callTy q (by rfl) z_tuple (by decide +kernel) (imA i_cons (pa_cons (imE i_var (pv 4)) (imA i_nil pa_nil)))) (imA i_nil pa_nil))))))))))))))))))
theorem rec_law_tree (Z : Env K mg) {fd_law_tree : FuncData} (F_law_tree : FunD K d_law_tree.name d_law_tree.qual d_law_tree.params d_law_tree.body d_law_tree.scope (d_law_tree.dvs K) (d_law_tree.kws K) (fAd K d_law_tree.at_) fd_law_tree) : ∀ d : Nat, FnOk P w K mg base (L2.CX P w) (3 + d) (ga K "_law_tree") fd_law_tree ["_law_state", "_law_deep", "_law_more"] (spM K (q_law_tree d))
  | 0 => vac_ok
  | d + 1 => by
    have G_law_tree := rec_law_tree Z F_law_tree d
    exact okA_law_tree d Z F_law_tree G_law_tree
theorem ok_law_tree (Z : Env K mg) : ∃ fd, FnOk P w K mg base (L2.CX P w) 53 (ga K "_law_tree") fd ["_law_state", "_law_deep", "_law_more"] (spM K m_law_tree) ∧ Binds K fd ["_law_state", "_law_deep", "_law_more"] [] ∧ PySem.W.keepIn K (.ref (ga K "_law_tree")) = true := by
  obtain ⟨fd_law_tree, F_law_tree⟩ := Z.c.def_ 37 (d := d_law_tree) rfl
  exact ⟨fd_law_tree, (rec_law_tree Z F_law_tree 50), bi_law_tree F_law_tree, F_law_tree.kp⟩
theorem sc_show_fit : FnScope ["fit", "one"] ["fit"] (defScope s_show_fit) := ⟨rfl, rfl, rfl, by decide +kernel, rfl, by decide +kernel, by decide +kernel⟩
theorem bi_show_fit {fd : FuncData} (F : FunD K d_show_fit.name d_show_fit.qual d_show_fit.params d_show_fit.body d_show_fit.scope (d_show_fit.dvs K) (d_show_fit.kws K) (fAd K d_show_fit.at_) fd) : Binds K fd ["fit"] [] := F.bindsN fun _ _ _ _ _ _ us hl => match us, hl with | [_], _ => rfl
theorem okA_show_fit (d : Nat) (Z : Env K mg) {fd_show_fit : FuncData} (F_show_fit : FunD K d_show_fit.name d_show_fit.qual d_show_fit.params d_show_fit.body d_show_fit.scope (d_show_fit.dvs K) (d_show_fit.kws K) (fAd K d_show_fit.at_) fd_show_fit) (G_show_fit : FnOk P w K mg base (L2.CX P w) (0 + d) (ga K "show_fit") fd_show_fit ["fit"] (spM K (q_show_fit d))) : FnOk P w K mg base (L2.CX P w) (0 + d + 1) (ga K "show_fit") fd_show_fit ["fit"] (spM K (q_show_fit (d + 1))) := by
  have b_show_fit := bi_show_fit F_show_fit
  have k_show_fit := F_show_fit.kp
  have g_Both := Z.glo 48 (x := "Both") rfl
  have g_Either := Z.glo 49 (x := "Either") rfl
  have g_Kind := Z.glo 37 (x := "Kind") rfl
  have g_Least := Z.glo 38 (x := "Least") rfl
  have g_Not := Z.glo 39 (x := "Not") rfl
  have g_Place := Z.glo 40 (x := "Place") rfl
  have g_show_fit := Z.glo 62 (x := "show_fit") rfl
  have z_isinstance := Z.free 17 (x := "isinstance") rfl
  have z_str := Z.free 18 (x := "str") rfl
  have hc : Hc K := Z.x 0 (f := hcB) rfl
  have xc : Xc K := Z.x 1 (f := xcB) rfl
  rw [q_show_fit_s]
  refine F_show_fit.ok (CX := (L2.CX P w)) sc_show_fit (fun vs H Q E h => len_M h) (fun cdv A outer s H vs Q E hr h => ⟨cS K p0 (wE E) (Mo.b_show_fit (q_show_fit d)), ?_, run_M rfl h⟩)
  exact (imSs i_seq (pss_cons (imS i_ifS (ps_if (imT i_tru (pt_truth (qe_cb (cm_isi hc) fun _ q => pe_callB q (by rfl) z_isinstance (by decide +kernel) (imA i_cons (pa_cons (imE i_var (pv 0)) (imA i_cons (pa_cons (imE i_cls (pe_glob rfl g_Kind rfl)) (imA i_nil pa_nil)))))) (by intro _; rfl))) (pss_one (imS i_ret (ps_ret (imE i_join (pe_join (imE i_str pe_str) (qe_op om_add (imE i_lst (pe_lst (imA i_cons (pa_cons (imE i_str pe_str) (imA i_nil pa_nil))))) (imE (i_fld hc) (pe_fld (imE i_var (pv 0)) rfl)))))))) (imSs i_next pss_nil)))
    (imSs i_seq (pss_cons (imS i_ifS (ps_if (imT i_tru (pt_truth (qe_cb (cm_isi hc) fun _ q => pe_callB q (by rfl) z_isinstance (by decide +kernel) (imA i_cons (pa_cons (imE i_var (pv 0)) (imA i_cons (pa_cons (imE i_cls (pe_glob rfl g_Place rfl)) (imA i_nil pa_nil)))))) (by intro _; rfl))) (pss_one (imS i_ret (ps_ret (imE i_join (pe_join (imE i_str pe_str) (qe_op om_add (imE i_lst (pe_lst (imA i_cons (pa_cons (imE i_str pe_str) (imA i_nil pa_nil))))) (imE (i_fld hc) (pe_fld (imE i_var (pv 0)) rfl)))))))) (imSs i_next pss_nil)))
    (imSs i_seq (pss_cons (imS i_ifS (ps_if (imT i_tru (pt_truth (qe_cb (cm_isi hc) fun _ q => pe_callB q (by rfl) z_isinstance (by decide +kernel) (imA i_cons (pa_cons (imE i_var (pv 0)) (imA i_cons (pa_cons (imE i_cls (pe_glob rfl g_Least rfl)) (imA i_nil pa_nil)))))) (by intro _; rfl))) (pss_one (imS i_ret (ps_ret (qe_op om_add (imE i_str pe_str) (qe_cb cm_str fun _ q => pe_callTy q (by rfl) z_str (by decide +kernel) (imA i_cons (pa_cons (imE (i_fld hc) (pe_fld (imE i_var (pv 0)) rfl)) (imA i_nil pa_nil)))))))) (imSs i_next pss_nil)))
    (imSs i_seq (pss_cons (imS i_ifS (ps_if (imT i_tru (pt_truth (qe_cb (cm_isi hc) fun _ q => pe_callB q (by rfl) z_isinstance (by decide +kernel) (imA i_cons (pa_cons (imE i_var (pv 0)) (imA i_cons (pa_cons (imE i_cls (pe_glob rfl g_Not rfl)) (imA i_nil pa_nil)))))) (by intro _; rfl))) (pss_one (imS i_ret (ps_ret (qe_op om_add (imE i_str pe_str) (imE i_call (pe_callS G_show_fit (hr.mono (by omega)) (by exact rfl) g_show_fit k_show_fit b_show_fit (fun σ => passAt (takes_of rfl rfl rfl rfl) σ) (imA i_cons (pa_cons (imE (i_fld hc) (pe_fld (imE i_var (pv 0)) rfl)) (imA i_nil pa_nil))))))))) (imSs i_next pss_nil)))
    (imSs i_seq (pss_cons (imS i_ifS (ps_if (imT i_tru (pt_truth (qe_cb (cm_isi hc) fun _ q => pe_callB q (by rfl) z_isinstance (by decide +kernel) (imA i_cons (pa_cons (imE i_var (pv 0)) (imA i_cons (pa_cons (imE i_cls (pe_glob rfl g_Both rfl)) (imA i_nil pa_nil)))))) (by intro _; rfl))) (pss_one (imS i_ret (ps_ret (qe_op om_add (qe_op om_add (imE i_str pe_str) (imE i_join (pe_join (imE i_str pe_str) (imE (i_lc (fun _ _ => ⟨.inl rfl, .inl rfl⟩) (fun _ h => h)) (pe_lc (own := [("one", 1)]) rfl sc_show_fit.nd (qi_D (imE (i_fld hc) (pe_fld (imE i_var (pv 0)) rfl))) (blkOk_by (own := [("one", 1)]) (N := ["fit", "one"]) (sc := defScope s_show_fit) (by decide +kernel)) (fun _ _ _ _ _ => (imG (i_hNm ⟨.inl rfl, .inl rfl⟩) (pg_name (i := 1) sc_show_fit.nd rfl (Or.inl rfl)))) (fun _ _ _ _ _ => (imTs i_uYes pts_nil)) (fun _ _ _ _ _ => (imE i_call (pe_callS G_show_fit (hr.mono (by omega)) (by exact rfl) g_show_fit k_show_fit b_show_fit (fun σ => passAt takes0 σ) (imA i_cons (pa_cons (imE i_var (pv 1)) (imA i_nil pa_nil))))))))))) (imE i_str pe_str))))) (imSs i_next pss_nil)))
    (imSs i_seq (pss_cons (imS i_ifS (ps_if (imT i_tru (pt_truth (qe_cb (cm_isi hc) fun _ q => pe_callB q (by rfl) z_isinstance (by decide +kernel) (imA i_cons (pa_cons (imE i_var (pv 0)) (imA i_cons (pa_cons (imE i_cls (pe_glob rfl g_Either rfl)) (imA i_nil pa_nil)))))) (by intro _; rfl))) (pss_one (imS i_ret (ps_ret (qe_op om_add (qe_op om_add (imE i_str pe_str) (imE i_join (pe_join (imE i_str pe_str) (imE (i_lc (fun _ _ => ⟨.inl rfl, .inl rfl⟩) (fun _ h => h)) (pe_lc (own := [("one", 1)]) rfl sc_show_fit.nd (qi_D (imE (i_fld hc) (pe_fld (imE i_var (pv 0)) rfl))) (blkOk_by (own := [("one", 1)]) (N := ["fit", "one"]) (sc := defScope s_show_fit) (by decide +kernel)) (fun _ _ _ _ _ => (imG (i_hNm ⟨.inl rfl, .inl rfl⟩) (pg_name (i := 1) sc_show_fit.nd rfl (Or.inl rfl)))) (fun _ _ _ _ _ => (imTs i_uYes pts_nil)) (fun _ _ _ _ _ => (imE i_call (pe_callS G_show_fit (hr.mono (by omega)) (by exact rfl) g_show_fit k_show_fit b_show_fit (fun σ => passAt takes0 σ) (imA i_cons (pa_cons (imE i_var (pv 1)) (imA i_nil pa_nil))))))))))) (imE i_str pe_str))))) (imSs i_next pss_nil)))
    (pss_one (imS i_ret (ps_ret (imE i_str pe_str))))))))))))))))
theorem rec_show_fit (Z : Env K mg) {fd_show_fit : FuncData} (F_show_fit : FunD K d_show_fit.name d_show_fit.qual d_show_fit.params d_show_fit.body d_show_fit.scope (d_show_fit.dvs K) (d_show_fit.kws K) (fAd K d_show_fit.at_) fd_show_fit) : ∀ d : Nat, FnOk P w K mg base (L2.CX P w) (0 + d) (ga K "show_fit") fd_show_fit ["fit"] (spM K (q_show_fit d))
  | 0 => vac_ok
  | d + 1 => by
    have G_show_fit := rec_show_fit Z F_show_fit d
    exact okA_show_fit d Z F_show_fit G_show_fit
theorem ok_show_fit (Z : Env K mg) : ∃ fd, FnOk P w K mg base (L2.CX P w) 50 (ga K "show_fit") fd ["fit"] (spM K m_show_fit) ∧ Binds K fd ["fit"] [] ∧ PySem.W.keepIn K (.ref (ga K "show_fit")) = true := by
  obtain ⟨fd_show_fit, F_show_fit⟩ := Z.c.def_ 38 (d := d_show_fit) rfl
  exact ⟨fd_show_fit, (rec_show_fit Z F_show_fit 50), bi_show_fit F_show_fit, F_show_fit.kp⟩
theorem sc_law_same : FnScope ["_law_fit", "_law_tree_here", "_law_kinds", "_law_words", "_law_word_here", "_law_k"] ["_law_fit", "_law_tree_here"] (defScope s_law_same) := ⟨rfl, rfl, rfl, by decide +kernel, rfl, by decide +kernel, by decide +kernel⟩
theorem bi_law_same {fd : FuncData} (F : FunD K d_law_same.name d_law_same.qual d_law_same.params d_law_same.body d_law_same.scope (d_law_same.dvs K) (d_law_same.kws K) (fAd K d_law_same.at_) fd) : Binds K fd ["_law_fit", "_law_tree_here"] [] := F.bindsN fun _ _ _ _ _ _ us hl => match us, hl with | [_, _], _ => rfl
theorem okA_law_same (d : Nat) (Z : Env K mg) {fd_law_same : FuncData} (F_law_same : FunD K d_law_same.name d_law_same.qual d_law_same.params d_law_same.body d_law_same.scope (d_law_same.dvs K) (d_law_same.kws K) (fAd K d_law_same.at_) fd_law_same) (G_law_same : FnOk P w K mg base (L2.CX P w) (0 + d) (ga K "_law_same") fd_law_same ["_law_fit", "_law_tree_here"] (spM K (q_law_same d))) : FnOk P w K mg base (L2.CX P w) (0 + d + 1) (ga K "_law_same") fd_law_same ["_law_fit", "_law_tree_here"] (spM K (q_law_same (d + 1))) := by
  have b_law_same := bi_law_same F_law_same
  have k_law_same := F_law_same.kp
  have g_Any := Z.glo 36 (x := "Any") rfl
  have g_Both := Z.glo 48 (x := "Both") rfl
  have g_Either := Z.glo 49 (x := "Either") rfl
  have g_Kind := Z.glo 37 (x := "Kind") rfl
  have g_Least := Z.glo 38 (x := "Least") rfl
  have g_Not := Z.glo 39 (x := "Not") rfl
  have g_Place := Z.glo 40 (x := "Place") rfl
  have g__law_same := Z.glo 63 (x := "_law_same") rfl
  have z_bool := Z.free 30 (x := "bool") rfl
  have z_int := Z.free 11 (x := "int") rfl
  have z_isinstance := Z.free 17 (x := "isinstance") rfl
  have z_len := Z.free 2 (x := "len") rfl
  have z_list := Z.free 3 (x := "list") rfl
  have z_range := Z.free 5 (x := "range") rfl
  have hc : Hc K := Z.x 0 (f := hcB) rfl
  have xc : Xc K := Z.x 1 (f := xcB) rfl
  rw [q_law_same_s]
  refine F_law_same.ok (CX := (L2.CX P w)) sc_law_same (fun vs H Q E h => len_M h) (fun cdv A outer s H vs Q E hr h => ⟨cS K p0 (wE E) (Mo.b_law_same (q_law_same d)), ?_, run_M rfl h⟩)
  exact (imSs i_seq (pss_cons (imS (i_asgN ⟨.inl rfl, .inl rfl⟩ (fun _ _ _ h => h)) (ps_set (i := 2) sc_law_same.nd rfl (Or.inl rfl) (imE i_lst (pe_lst (imA i_cons (pa_cons (qe_cb (cm_isi hc) fun _ q => pe_callB q (by rfl) z_isinstance (by decide +kernel) (imA i_cons (pa_cons (imE i_var (pv 0)) (imA i_cons (pa_cons (imE i_cls (pe_glob rfl g_Any rfl)) (imA i_nil pa_nil)))))) (imA i_cons (pa_cons (qe_cb (cm_isi hc) fun _ q => pe_callB q (by rfl) z_isinstance (by decide +kernel) (imA i_cons (pa_cons (imE i_var (pv 0)) (imA i_cons (pa_cons (imE i_cls (pe_glob rfl g_Kind rfl)) (imA i_nil pa_nil)))))) (imA i_cons (pa_cons (qe_cb (cm_isi hc) fun _ q => pe_callB q (by rfl) z_isinstance (by decide +kernel) (imA i_cons (pa_cons (imE i_var (pv 0)) (imA i_cons (pa_cons (imE i_cls (pe_glob rfl g_Place rfl)) (imA i_nil pa_nil)))))) (imA i_cons (pa_cons (qe_cb (cm_isi hc) fun _ q => pe_callB q (by rfl) z_isinstance (by decide +kernel) (imA i_cons (pa_cons (imE i_var (pv 0)) (imA i_cons (pa_cons (imE i_cls (pe_glob rfl g_Least rfl)) (imA i_nil pa_nil)))))) (imA i_nil pa_nil)))))))))))))
    (imSs i_seq (pss_cons (imS (i_asgN ⟨.inl rfl, .inl rfl⟩ (fun _ _ _ h => h)) (ps_set (i := 2) sc_law_same.nd rfl (Or.inl rfl) (qe_op om_add (imE i_var (pv 2)) (imE i_lst (pe_lst (imA i_cons (pa_cons (qe_cb (cm_isi hc) fun _ q => pe_callB q (by rfl) z_isinstance (by decide +kernel) (imA i_cons (pa_cons (imE i_var (pv 0)) (imA i_cons (pa_cons (imE i_cls (pe_glob rfl g_Not rfl)) (imA i_nil pa_nil)))))) (imA i_cons (pa_cons (qe_cb (cm_isi hc) fun _ q => pe_callB q (by rfl) z_isinstance (by decide +kernel) (imA i_cons (pa_cons (imE i_var (pv 0)) (imA i_cons (pa_cons (imE i_cls (pe_glob rfl g_Both rfl)) (imA i_nil pa_nil)))))) (imA i_cons (pa_cons (qe_cb (cm_isi hc) fun _ q => pe_callB q (by rfl) z_isinstance (by decide +kernel) (imA i_cons (pa_cons (imE i_var (pv 0)) (imA i_cons (pa_cons (imE i_cls (pe_glob rfl g_Either rfl)) (imA i_nil pa_nil)))))) (imA i_nil pa_nil))))))))))))
    (imSs i_seq (pss_cons (imS (i_asgN ⟨.inl rfl, .inl rfl⟩ (fun _ _ _ h => h)) (ps_set (i := 3) sc_law_same.nd rfl (Or.inl rfl) (imE i_lst (pe_lst (imA i_cons (pa_cons (imE i_str pe_str) (imA i_cons (pa_cons (imE i_str pe_str) (imA i_cons (pa_cons (imE i_str pe_str) (imA i_cons (pa_cons (imE i_str pe_str) (imA i_cons (pa_cons (imE i_str pe_str) (imA i_cons (pa_cons (imE i_str pe_str) (imA i_cons (pa_cons (imE i_str pe_str) (imA i_nil pa_nil)))))))))))))))))))
    (imSs i_seq (pss_cons (imS i_ifS (ps_if (qt_cmp (om_ne hr.units) (imE i_var (pv 2)) (imE (i_lc (fun _ _ => ⟨.inl rfl, .inl rfl⟩) (fun _ h => h)) (pe_lc (own := [("_law_word_here", 4)]) rfl sc_law_same.nd (qi_D (imE i_var (pv 3))) (blkOk_by (own := [("_law_word_here", 4)]) (N := ["_law_fit", "_law_tree_here", "_law_kinds", "_law_words", "_law_word_here", "_law_k"]) (sc := defScope s_law_same) (by decide +kernel)) (fun _ _ _ _ _ => (imG (i_hNm ⟨.inl rfl, .inl rfl⟩) (pg_name (i := 4) sc_law_same.nd rfl (Or.inl rfl)))) (fun _ _ _ _ _ => (imTs i_uYes pts_nil)) (fun _ _ _ _ _ => (qe_cmp (om_eq hr.units) (imE i_var (pv 4)) (qe_ix (imE i_var (pv 1)) (imE i_int pe_int) (fun _ _ => rfl)) (nomark _))))) (nomark _)) (pss_one (imS i_ret (ps_ret (imE i_bl pe_bl)))) (imSs i_next pss_nil)))
    (imSs i_seq (pss_cons (imS i_ifS (ps_if (PW.pt (imW i_uOr (pw_or (qt_cmp (om_eq hr.units) (qe_ix (imE i_var (pv 1)) (imE i_int pe_int) (fun _ _ => rfl)) (imE i_str pe_str) (nomark _)) (pw_or1 (qt_cmp (om_eq hr.units) (qe_ix (imE i_var (pv 1)) (imE i_int pe_int) (fun _ _ => rfl)) (imE i_str pe_str) (nomark _)))))) (pss_one (imS i_ret (ps_ret (qe_cmp (om_eq hr.units) (imE (i_fld hc) (pe_fld (imE i_var (pv 0)) rfl)) (qe_cb (cm_list false) fun _ q => pe_callTy q (by rfl) z_list (by decide +kernel) (imA i_cons (pa_cons (qe_ix (imE i_var (pv 1)) (imE i_int pe_int) (fun _ _ => rfl)) (imA i_nil pa_nil)))) (nomark _))))) (imSs i_next pss_nil)))
    (imSs i_seq (pss_cons (imS i_ifS (ps_if (qt_cmp (om_eq hr.units) (qe_ix (imE i_var (pv 1)) (imE i_int pe_int) (fun _ _ => rfl)) (imE i_str pe_str) (nomark _)) (pss_one (imS i_ret (ps_ret (imE i_and (pe_and (qe_cb (cm_isi hc) fun _ q => pe_callB q (by rfl) z_isinstance (by decide +kernel) (imA i_cons (pa_cons (imE (i_fld hc) (pe_fld (imE i_var (pv 0)) rfl)) (imA i_cons (pa_cons (imE i_ty (pe_bltn (v := .ty "int") (by rfl) z_int (by decide +kernel) rfl)) (imA i_nil pa_nil)))))) (imE i_and (pe_and (imE i_not (pe_not (qe_cb (cm_isi hc) fun _ q => pe_callB q (by rfl) z_isinstance (by decide +kernel) (imA i_cons (pa_cons (imE (i_fld hc) (pe_fld (imE i_var (pv 0)) rfl)) (imA i_cons (pa_cons (imE i_ty (pe_bltn (v := .ty "bool") (by rfl) z_bool (by decide +kernel) rfl)) (imA i_nil pa_nil)))))))) (pe_one (qe_cmp (om_eq hr.units) (imE (i_fld hc) (pe_fld (imE i_var (pv 0)) rfl)) (qe_ix (imE i_var (pv 1)) (imE i_int pe_int) (fun _ _ => rfl)) (nomark _)))))))))) (imSs i_next pss_nil)))
    (imSs i_seq (pss_cons (imS i_ifS (ps_if (qt_cmp (om_eq hr.units) (qe_ix (imE i_var (pv 1)) (imE i_int pe_int) (fun _ _ => rfl)) (imE i_str pe_str) (nomark _)) (pss_one (imS i_ret (ps_ret (imE i_call (pe_callS G_law_same (hr.mono (by omega)) (by exact rfl) g__law_same k_law_same b_law_same (fun σ => passAt (takes_of rfl rfl rfl rfl) σ) (imA i_cons (pa_cons (imE (i_fld hc) (pe_fld (imE i_var (pv 0)) rfl)) (imA i_cons (pa_cons (qe_ix (imE i_var (pv 1)) (imE i_int pe_int) (fun _ _ => rfl)) (imA i_nil pa_nil)))))))))) (imSs i_next pss_nil)))
    (imSs i_seq (pss_cons (imS i_ifS (ps_if (qt_cmp (om_eq hr.units) (qe_ix (imE i_var (pv 1)) (imE i_int pe_int) (fun _ _ => rfl)) (imE i_str pe_str) (nomark _)) (pss_one (imS i_ret (ps_ret (imE i_bl pe_bl)))) (imSs i_next pss_nil)))
    (imSs i_seq (pss_cons (imS i_ifS (ps_if (PW.pt (imW i_uOr (pw_or (imT i_uNot (pt_not (imT i_tru (pt_truth (qe_cb (cm_isi hc) fun _ q => pe_callB q (by rfl) z_isinstance (by decide +kernel) (imA i_cons (pa_cons (imE (i_fld hc) (pe_fld (imE i_var (pv 0)) rfl)) (imA i_cons (pa_cons (imE i_ty (pe_bltn (v := .ty "list") (by rfl) z_list (by decide +kernel) rfl)) (imA i_nil pa_nil)))))) (by intro _; rfl))))) (pw_or1 (qt_cmp (om_ne hr.units) (qe_cb cm_len fun _ q => pe_callB q (by rfl) z_len (by decide +kernel) (imA i_cons (pa_cons (imE (i_fld hc) (pe_fld (imE i_var (pv 0)) rfl)) (imA i_nil pa_nil)))) (qe_cb cm_len fun _ q => pe_callB q (by rfl) z_len (by decide +kernel) (imA i_cons (pa_cons (qe_ix (imE i_var (pv 1)) (imE i_int pe_int) (fun _ _ => rfl)) (imA i_nil pa_nil)))) (nomark _)))))) (pss_one (imS i_ret (ps_ret (imE i_bl pe_bl)))) (imSs i_next pss_nil)))
    (pss_one (imS i_ret (ps_ret (qe_cmp (om_eqE hr.units) (imE (i_lc (fun _ _ => ⟨.inl rfl, .inl rfl⟩) (fun _ h => h)) (pe_lc (own := [("_law_k", 5)]) rfl sc_law_same.nd (imI i_wRng1 (pi_range1 rfl z_range (imA i_cons (pa_cons (qe_cb cm_len fun _ q => pe_callB q (by rfl) z_len (by decide +kernel) (imA i_cons (pa_cons (qe_ix (imE i_var (pv 1)) (imE i_int pe_int) (fun _ _ => rfl)) (imA i_nil pa_nil)))) (imA i_nil pa_nil))))) (blkOk_by (own := [("_law_k", 5)]) (N := ["_law_fit", "_law_tree_here", "_law_kinds", "_law_words", "_law_word_here", "_law_k"]) (sc := defScope s_law_same) (by decide +kernel)) (fun _ _ _ _ _ => (imG (i_hNm ⟨.inl rfl, .inl rfl⟩) (pg_name (i := 5) sc_law_same.nd rfl (Or.inl rfl)))) (fun _ _ _ _ _ => (pts_one (imT i_uNot (pt_not (imT i_tru (pt_truth (imE i_call (pe_callS G_law_same (hr.mono (by omega)) (by exact rfl) g__law_same k_law_same b_law_same (fun σ => passAt takes0 σ) (imA i_cons (pa_cons (qe_ix (imE (i_fld hc) (pe_fld (imE i_var (pv 0)) rfl)) (imE i_var (pv 5)) (fun _ _ => rfl)) (imA i_cons (pa_cons (qe_ix (qe_ix (imE i_var (pv 1)) (imE i_int pe_int) (fun _ _ => rfl)) (imE i_var (pv 5)) (fun _ _ => rfl)) (imA i_nil pa_nil))))))) (by intro _; rfl))))))) (fun _ _ _ _ _ => (imE i_var (pv 5))))) (imE i_lst (pe_lst (imA i_nil pa_nil))) (nomark _)))))))))))))))))))))))
theorem rec_law_same (Z : Env K mg) {fd_law_same : FuncData} (F_law_same : FunD K d_law_same.name d_law_same.qual d_law_same.params d_law_same.body d_law_same.scope (d_law_same.dvs K) (d_law_same.kws K) (fAd K d_law_same.at_) fd_law_same) : ∀ d : Nat, FnOk P w K mg base (L2.CX P w) (0 + d) (ga K "_law_same") fd_law_same ["_law_fit", "_law_tree_here"] (spM K (q_law_same d))
  | 0 => vac_ok
  | d + 1 => by
    have G_law_same := rec_law_same Z F_law_same d
    exact okA_law_same d Z F_law_same G_law_same
theorem ok_law_same (Z : Env K mg) : ∃ fd, FnOk P w K mg base (L2.CX P w) 50 (ga K "_law_same") fd ["_law_fit", "_law_tree_here"] (spM K m_law_same) ∧ Binds K fd ["_law_fit", "_law_tree_here"] [] ∧ PySem.W.keepIn K (.ref (ga K "_law_same")) = true := by
  obtain ⟨fd_law_same, F_law_same⟩ := Z.c.def_ 39 (d := d_law_same) rfl
  exact ⟨fd_law_same, (rec_law_same Z F_law_same 50), bi_law_same F_law_same, F_law_same.kp⟩
theorem sc_law : FnScope ["_law_script", "_law_cell", "_law_state", "_law_words", "_law_due", "_law_at", "_law_text_here", "_law_k", "_law_found", "_law_line"] ["_law_script"] (defScope s_law) := ⟨rfl, rfl, rfl, by decide +kernel, rfl, by decide +kernel, by decide +kernel⟩
theorem okA_law (Z : Env K mg) {fd : FuncData} (F : FunD K d_law.name d_law.qual d_law.params d_law.body d_law.scope (d_law.dvs K) (d_law.kws K) (fAd K d_law.at_) fd) : FnOk P w K mg base CX0 99 (ga K "law") fd ["_law_script"] (sp_law K) := by
  obtain ⟨fd_law_begin, G_law_begin, b_law_begin, k_law_begin⟩ := ok_law_begin (P := P) (w := w) (base := base) Z
  obtain ⟨fd_law_read, G_law_read, b_law_read, k_law_read⟩ := ok_law_read (P := P) (w := w) (base := base) Z
  obtain ⟨fd_law_same, G_law_same, b_law_same, k_law_same⟩ := ok_law_same (P := P) (w := w) (base := base) Z
  obtain ⟨fd_law_spoilt, G_law_spoilt, b_law_spoilt, k_law_spoilt⟩ := ok_law_spoilt (P := P) (w := w) (base := base) Z
  obtain ⟨fd_law_text, G_law_text, b_law_text, k_law_text⟩ := ok_law_text (P := P) (w := w) (base := base) Z
  obtain ⟨fd_law_told, G_law_told, b_law_told, k_law_told⟩ := ok_law_told (P := P) (w := w) (base := base) Z
  obtain ⟨fd_law_tree, G_law_tree, b_law_tree, k_law_tree⟩ := ok_law_tree (P := P) (w := w) (base := base) Z
  obtain ⟨fd_show_fit, G_show_fit, b_show_fit, k_show_fit⟩ := ok_show_fit (P := P) (w := w) (base := base) Z
  have g__law_begin := Z.glo 64 (x := "_law_begin") rfl
  have g__law_read := Z.glo 9 (x := "_law_read") rfl
  have g__law_same := Z.glo 63 (x := "_law_same") rfl
  have g__law_spoilt := Z.glo 65 (x := "_law_spoilt") rfl
  have g__law_text := Z.glo 58 (x := "_law_text") rfl
  have g__law_told := Z.glo 66 (x := "_law_told") rfl
  have g__law_tree := Z.glo 61 (x := "_law_tree") rfl
  have g_show_fit := Z.glo 62 (x := "show_fit") rfl
  have z_len := Z.free 2 (x := "len") rfl
  have z_range := Z.free 5 (x := "range") rfl
  have hc : Hc K := Z.x 0 (f := hcB) rfl
  have xc : Xc K := Z.x 1 (f := xcB) rfl
  refine F.ok (CX := CX0) sc_law (fun vs H Q E h => by obtain ⟨_, _, rfl, _⟩ := h; rfl) (fun cdv A outer s H vs Q E hr h => ⟨cS K p0 Wn b_law, PSs.nox ?_, run_law rfl h plain⟩)
  exact (imSs i_seq (pss_cons (imS i_for (ps_for PassesOwn.never rfl (qi_D (qe_op om_add (imE i_lst (pe_lst (imA i_cons (pa_cons (imE i_int pe_int) (imA i_nil pa_nil))))) (qe_sl (imE i_var (pv 0)) (imO i_oNone po_none) (imO i_oSome (po_some (imE i_int pe_int)))))) (imG (i_hNm ⟨.inl rfl, .inl rfl⟩) (pg_name (i := 1) sc_law.nd rfl (Or.inl rfl)))
    (imSs i_seq (pss_cons (imS (i_asgN ⟨.inl rfl, .inl rfl⟩ (fun _ _ _ h => h)) (ps_set (i := 2) sc_law.nd rfl (Or.inl rfl) (imE i_call (pe_callS G_law_begin (hr.mono (by decide)) (by exact rfl) g__law_begin k_law_begin b_law_begin (fun σ => passAt takes0 σ) (imA i_cons (pa_cons (imE i_var (pv 1)) (imA i_nil pa_nil)))))))
    (imSs i_seq (pss_cons (imS (i_asgN ⟨.inl rfl, .inl rfl⟩ (fun _ _ _ h => h)) (ps_set (i := 3) sc_law.nd rfl (Or.inl rfl) (imE i_split (pe_split (imE i_call (pe_callS G_law_text (hr.mono (by decide)) (by exact rfl) g__law_text k_law_text b_law_text (fun σ => passAt takes0 σ) (imA i_cons (pa_cons (imE i_call (pe_callS G_law_tree (hr.mono (by decide)) (by exact rfl) g__law_tree k_law_tree b_law_tree (fun σ => passAt takes0 σ) (imA i_cons (pa_cons (imE i_var (pv 2)) (imA i_cons (pa_cons (imE i_int pe_int) (imA i_cons (pa_cons (imE i_int pe_int) (imA i_nil pa_nil))))))))) (imA i_nil pa_nil))))) (imE i_str pe_str)))))
    (imSs i_seq (pss_cons (imS (i_asgN ⟨.inl rfl, .inl rfl⟩ (fun _ _ _ h => h)) (ps_set (i := 3) sc_law.nd rfl (Or.inl rfl) (imE i_call (pe_callS G_law_spoilt (hr.mono (by decide)) (by exact rfl) g__law_spoilt k_law_spoilt b_law_spoilt (fun σ => passAt takes0 σ) (imA i_cons (pa_cons (imE i_var (pv 3)) (imA i_cons (pa_cons (imE i_var (pv 2)) (imA i_nil pa_nil)))))))))
    (imSs i_seq (pss_cons (imS i_asg (ps_asg (imE i_call (pe_callS G_law_read (hr.mono (by decide)) (by exact rfl) g__law_read k_law_read b_law_read (fun σ => passAt takes0 σ) (imA i_cons (pa_cons (imE i_var (pv 3)) (imA i_cons (pa_cons (imE i_int pe_int) (imA i_nil pa_nil))))))) (imG i_hTup (pg_tup (by rfl) (imGs (i_hCons (ws := [4])) (pgs_cons (imG (i_hNm ⟨.inl rfl, .inl rfl⟩) (pg_name (i := 4) sc_law.nd rfl (Or.inl rfl))) (imGs (i_hCons (ws := [5])) (pgs_cons (imG (i_hNm ⟨.inl rfl, .inl rfl⟩) (pg_name (i := 5) sc_law.nd rfl (Or.inl rfl))) (imGs i_hNil pgs_nil)))))))))
    (imSs i_seq (pss_cons (imS i_ifS (ps_if (qt_cmp om_lt (imE i_var (pv 5)) (qe_cb cm_len fun _ q => pe_callB q (by rfl) z_len (by decide +kernel) (imA i_cons (pa_cons (imE i_var (pv 3)) (imA i_nil pa_nil)))) (nomark _)) (pss_one (imS (i_asgN ⟨.inl rfl, .inl rfl⟩ (fun _ _ _ h => h)) (ps_set (i := 4) sc_law.nd rfl (Or.inl rfl) (imE i_non pe_non)))) (imSs i_next pss_nil)))
    (imSs i_seq (pss_cons (imS (i_asgN ⟨.inl rfl, .inl rfl⟩ (fun _ _ _ h => h)) (ps_set (i := 6) sc_law.nd rfl (Or.inl rfl) (imE i_join (pe_join (imE i_str pe_str) (imE i_var (pv 3))))))
    (pss_one (imS i_for (ps_for PassesOwn.never rfl (imI i_wRng1 (pi_range1 rfl z_range (imA i_cons (pa_cons (imE i_int pe_int) (imA i_nil pa_nil))))) (imG (i_hNm ⟨.inl rfl, .inl rfl⟩) (pg_name (i := 7) sc_law.nd rfl (Or.inl rfl)))
    (imSs i_seq (pss_cons (imS i_asg (ps_asg (imE i_call (pe_callS G_law_told (hr.mono (by decide)) (by exact rfl) g__law_told k_law_told b_law_told (fun σ => passAt takes0 σ) (imA i_cons (pa_cons (imE i_var (pv 6)) (imA i_nil pa_nil))))) (imG i_hTup (pg_tup (by rfl) (imGs (i_hCons (ws := [8])) (pgs_cons (imG (i_hNm ⟨.inl rfl, .inl rfl⟩) (pg_name (i := 8) sc_law.nd rfl (Or.inl rfl))) (imGs (i_hCons (ws := [9])) (pgs_cons (imG (i_hNm ⟨.inl rfl, .inl rfl⟩) (pg_name (i := 9) sc_law.nd rfl (Or.inl rfl))) (imGs i_hNil pgs_nil)))))))))
    (imSs i_seq (pss_cons (imS i_ifS (ps_if (PW.pt (imW i_uAnd (pw_and (qt_cmp om_isN (imE i_var (pv 4)) (imE i_non pe_non) (nomark _)) (pw_and1 (PW.pt (imW i_uOr (pw_or (qt_cmp om_notN (imE i_var (pv 8)) (imE i_non pe_non) (nomark _)) (pw_or1 (qt_cmp (om_ne hr.units) (imE i_var (pv 9)) (imE i_int pe_int) (nomark _)))))))))) (pss_one (imS i_ret (ps_ret (imE i_bl pe_bl)))) (imSs i_next pss_nil)))
    (imSs i_seq (pss_cons (imS i_ifS (ps_if (PW.pt (imW i_uAnd (pw_and (qt_cmp om_notN (imE i_var (pv 4)) (imE i_non pe_non) (nomark _)) (pw_and1 (PW.pt (imW i_uOr (pw_or (qt_cmp (om_ne hr.units) (imE i_var (pv 9)) (imE (i_un sim_neg) (pe_un un_neg (imE i_int pe_int))) (nomark _)) (pw_or1 (imT i_uNot (pt_not (imT i_tru (pt_truth (imE i_call (pe_callS G_law_same (hr.mono (by decide)) (by exact rfl) g__law_same k_law_same b_law_same (fun σ => passAt takes0 σ) (imA i_cons (pa_cons (imE i_var (pv 8)) (imA i_cons (pa_cons (imE i_var (pv 4)) (imA i_nil pa_nil))))))) (by intro _; rfl))))))))))))) (pss_one (imS i_ret (ps_ret (imE i_bl pe_bl)))) (imSs i_next pss_nil)))
    (pss_one (imS i_ifS (ps_if (PW.pt (imW i_uAnd (pw_and (qt_cmp om_notN (imE i_var (pv 4)) (imE i_non pe_non) (nomark _)) (pw_and1 (qt_cmp (om_ne hr.units) (imE i_call (pe_callS G_show_fit (hr.mono (by decide)) (by exact rfl) g_show_fit k_show_fit b_show_fit (fun σ => passAt takes0 σ) (imA i_cons (pa_cons (imE i_var (pv 8)) (imA i_nil pa_nil))))) (imE i_var (pv 6)) (nomark _)))))) (pss_one (imS i_ret (ps_ret (imE i_bl pe_bl)))) (imSs i_next pss_nil)))))))))))))))))))))))))))
    (pss_one (imS i_ret (ps_ret (imE i_bl pe_bl))))))
theorem ok_law (Z : Env K mg) : ∃ fd, FnOk P w K mg base CX0 99 (ga K "law") fd ["_law_script"] (sp_law K) ∧ Binds K fd ["_law_script"] [] ∧ PySem.W.keepIn K (.ref (ga K "law")) = true := by
  obtain ⟨fd, F⟩ := Z.c.def_ 40 (d := d_law) rfl
  exact ⟨fd, okA_law Z F, F.bindsN fun _ _ _ _ _ _ us hl => match us, hl with | [_], _ => rfl, F.kp⟩
end
/-! ### the head -/
abbrev R : PySem.W.OpenRow := PySem.W.OpenLaw.row PySem.Challenge.rw_bellsaway_k19_texts_of_fits_spoilt
abbrev hk : PySem.W.Hook := hookM 4
def ob (s : PySem.W.SharedT) : AlM := obsM 4 (HandSHeadRun.getT s)
theorem ob_eq (s : PySem.W.SharedT) : ob s = hk.obs s.abs := by
  have e : HandSHeadRun.getT s = s.abs.heap.get? := funext (HandSHeadRun.getT_eq s)
  show obsM _ _ = obsM _ _
  rw [e]
section
open PySem.W PySem.Calls HandSHeadRun
/-! the run's equation in three, for the kernel's room: each runs the top anew -/
theorem run_a (w : World) : ∀ os : OsState, (endF (stepQ (denQ tabQ) R.prog w) 12000 R.prog w os).map (fun s => (looksF R.prog (boot_heap w.params) s.abs, seenQ (PySem.W.view R.prog [58]) ("_wall" :: "BellError" :: "NoClock" :: "NoFit" :: "NoWish" :: "NoText" :: "is_whole" :: "LETTERS" :: "MOST_LETTERS" :: "is_name" :: "are_names" :: "is_weight" :: "Fit" :: "Any" :: "Named" :: "Kind" :: "Place" :: "Least" :: "Not" :: "Several" :: "Both" :: "Either" :: "FIGURES" :: "MOST_FIGURES" :: "text_unless" :: "number_of" :: "Words" :: "DEEPEST" :: "show_fit" :: "names_in" :: "fit_in" :: "several_in" :: "read_by" :: "read_fit" :: "_law_cell_at" :: "_law_begin" :: "_law_next" :: "_law_name" :: "_law_leaf" :: "_law_tree" :: "_law_text" :: "_law_same" :: "_law_word" :: "_law_changed" :: "_law_spoilt" :: "_law_is_name" :: "_law_is_weight" :: "_law_names" :: "_law_several" :: "_law_read" :: "_law_told" :: []) (importedModules R.prog.main.body) (fun s => xlAt (PySem.W.view R.prog [58]) [] s && recOk R.toRowW.records s) s.abs)) = some (true, openGood (PySem.W.view R.prog [58]) ("_wall" :: "BellError" :: "NoClock" :: "NoFit" :: "NoWish" :: "NoText" :: "is_whole" :: "LETTERS" :: "MOST_LETTERS" :: "is_name" :: "are_names" :: "is_weight" :: "Fit" :: "Any" :: "Named" :: "Kind" :: "Place" :: "Least" :: "Not" :: "Several" :: "Both" :: "Either" :: "FIGURES" :: "MOST_FIGURES" :: "text_unless" :: "number_of" :: "Words" :: "DEEPEST" :: "show_fit" :: "names_in" :: "fit_in" :: "several_in" :: "read_by" :: "read_fit" :: "_law_cell_at" :: "_law_begin" :: "_law_next" :: "_law_name" :: "_law_leaf" :: "_law_tree" :: "_law_text" :: "_law_same" :: "_law_word" :: "_law_changed" :: "_law_spoilt" :: "_law_is_name" :: "_law_is_weight" :: "_law_names" :: "_law_several" :: "_law_read" :: "_law_told" :: [])) := by
  intro os
  kernel_rfl
theorem run_b (w : World) : ∀ os : OsState, (endF (stepQ (denQ tabQ) R.prog w) 12000 R.prog w os).map (fun s => frK 4 (HandSHeadRun.getT s) fun K => fa.all fun f => f.ok K) = some true := by
  intro os
  kernel_rfl
theorem run_c (w : World) : ∀ os : OsState, (endF (stepQ (denQ tabQ) R.prog w) 12000 R.prog w os).map (fun s => frK 4 (HandSHeadRun.getT s) fun K => (fn.all fun d => d.ok K, (fn.map fun d => fnW K d.at_, xs.all fun f => f K))) = some (true, (fn.map DefD.val, true)) := by
  intro os
  kernel_rfl
theorem run_join {α A B C D : Type} {x : Option α} {f1 : α → A} {f2 : α → B} {f3 : α → C} {h : α → D} {a : A} {b : B} {c : C} {d : D} (e1 : x.map f1 = some a) (e2 : x.map f2 = some b) (e3 : x.map f3 = some c) (J : ∀ s, f1 s = a → f2 s = b → f3 s = c → h s = d) : x.map h = some d := by
  cases x with
  | none => cases e1
  | some s => exact congrArg some (J s (Option.some.inj e1) (Option.some.inj e2) (Option.some.inj e3))
theorem run (w : World) : HandSHeadRun.RunEq R (PySem.W.view R.prog [58]) hk ob 12000 ("_wall" :: "BellError" :: "NoClock" :: "NoFit" :: "NoWish" :: "NoText" :: "is_whole" :: "LETTERS" :: "MOST_LETTERS" :: "is_name" :: "are_names" :: "is_weight" :: "Fit" :: "Any" :: "Named" :: "Kind" :: "Place" :: "Least" :: "Not" :: "Several" :: "Both" :: "Either" :: "FIGURES" :: "MOST_FIGURES" :: "text_unless" :: "number_of" :: "Words" :: "DEEPEST" :: "show_fit" :: "names_in" :: "fit_in" :: "several_in" :: "read_by" :: "read_fit" :: "_law_cell_at" :: "_law_begin" :: "_law_next" :: "_law_name" :: "_law_leaf" :: "_law_tree" :: "_law_text" :: "_law_same" :: "_law_word" :: "_law_changed" :: "_law_spoilt" :: "_law_is_name" :: "_law_is_weight" :: "_law_names" :: "_law_several" :: "_law_read" :: "_law_told" :: []) w := by
  intro os
  refine run_join (run_a w os) (run_b w os) (run_c w os) fun s e1 e2 e3 => ?_
  obtain ⟨K, _, hK⟩ := frK_eq 4 (HandSHeadRun.getT s)
  have e2 := (hK _ _).symm.trans e2
  have e3 := (hK _ _).symm.trans e3
  obtain ⟨c1, c2⟩ := Prod.mk.inj e3
  obtain ⟨c2, c3⟩ := Prod.mk.inj c2
  obtain ⟨h1, h2⟩ := Prod.mk.inj e1
  have e4 : ob s = (valD fn, true) := by
    refine (hK _ fun K => (obsD fa fn K, xs.all fun f => f K)).trans ?_
    refine Prod.ext (Prod.ext ?_ c2) c3
    exact Bool.and_eq_true_iff.mpr ⟨e2, c1⟩
  exact Prod.ext h1 (Prod.ext h2 e4)
end
theorem facts {P : Program} {w : World} {K : PySem.W.Frag} {h : Heap} {mg : Str → Option Value} {f : Addr} (X : K.In h) (G : h.Ns mainGlobals mg) (hfa : mg ("law" : Str) = some (.ref f)) (c : He.SaysD fa fn K ∧ (xs.all fun f => f K) = true) :
    ∃ fd : FuncData, (∀ (s : Shared) (v : Value), BindsTo s fd ⟨[v], []⟩ [("_law_script", v)]) ∧ ∀ base : Heap, K.In base → base.Ns mainGlobals mg → FnOk P w K mg base CX0 99 f fd ["_law_script"] (sp_law K) := by
  have Z : Env K mg := ⟨c.1, ⟨h, X, G⟩, c.2⟩
  obtain ⟨fd, F⟩ := c.1.def_ 40 (d := d_law) rfl
  have e := hfa.symm.trans (Z.glo 67 rfl)
  cases e
  have b := FunD.bindsA (ps := ["_law_script"]) F fun _ _ _ _ _ _ us hl => match us, hl with | [_], _ => rfl
  exact ⟨fd, fun s v => b s [v] rfl, fun base _ _ => okA_law Z F⟩
end Pr
open PySem PySem.W PySem.Calls PyProof.Rows
set_option maxRecDepth 100000 in
set_option maxHeartbeats 0 in
theorem PySem.Challenge.cw_bellsaway_k19_texts_of_fits_spoilt_holds : PySem.Challenge.rw_bellsaway_k19_texts_of_fits_spoilt.Holds := by
  w_on; o_law
  refine HandSHeadRun.head_any (r := OpenLaw.row PySem.Challenge.rw_bellsaway_k19_texts_of_fits_spoilt) (q := view (OpenLaw.row PySem.Challenge.rw_bellsaway_k19_texts_of_fits_spoilt).prog [58]) (H := Pr.hk) (ob := Pr.ob) (M := 12000) (loose := ("_wall" :: "BellError" :: "NoClock" :: "NoFit" :: "NoWish" :: "NoText" :: "is_whole" :: "LETTERS" :: "MOST_LETTERS" :: "is_name" :: "are_names" :: "is_weight" :: "Fit" :: "Any" :: "Named" :: "Kind" :: "Place" :: "Least" :: "Not" :: "Several" :: "Both" :: "Either" :: "FIGURES" :: "MOST_FIGURES" :: "text_unless" :: "number_of" :: "Words" :: "DEEPEST" :: "show_fit" :: "names_in" :: "fit_in" :: "several_in" :: "read_by" :: "read_fit" :: "_law_cell_at" :: "_law_begin" :: "_law_next" :: "_law_name" :: "_law_leaf" :: "_law_tree" :: "_law_text" :: "_law_same" :: "_law_word" :: "_law_changed" :: "_law_spoilt" :: "_law_is_name" :: "_law_is_weight" :: "_law_names" :: "_law_several" :: "_law_read" :: "_law_told" :: [])) (d := HandSHeadRun.topDef (OpenLaw.row PySem.Challenge.rw_bellsaway_k19_texts_of_fits_spoilt).prog 58) (kwd := []) Pr.ob_eq
    (by kernel_rfl) (fun s => by kernel_rfl) Pr.run (by kernel_rfl) (by kernel_rfl) (by kernel_rfl) (by rfl) (by first | assumption | decide +kernel) (by decide +kernel) ⟨rfl, rfl, rfl, rfl, rfl, by decide +kernel⟩ ?hw ?hc
  case hw => w_witness2
  case hc =>
    refine L2.walk_ofE (l := PySem.Challenge.rw_bellsaway_k19_texts_of_fits_spoilt) (n := 63) (k := 99) (x := "_law_script") (CX := L2.CX0) rfl (by decide) (by kernel_rfl) ⟨rfl, by decide, by decide⟩ ?F (fun _ _ _ _ z => z)
    intro w mg fa h Y G hmg0
    obtain ⟨K, KX, c⟩ := Y
    have hmg : mg ("law" : PySem.Str) = some (.ref fa) := by
      have e : (HandSHeadRun.topDef (OpenLaw.row PySem.Challenge.rw_bellsaway_k19_texts_of_fits_spoilt).prog 58).name = ("law" : PySem.Str) := by kernel_rfl
      rw [← e]
      exact hmg0
    obtain ⟨fd, hb, hF⟩ := Pr.facts (P := (PySem.Challenge.rw_bellsaway_k19_texts_of_fits_spoilt).prog) (w := w) KX G hmg c
    exact ⟨K, fd, Pr.sp_law K, KX, hb, fun H a ns hl _ hS => ⟨a, ns, rfl, hS, hl, fun _ => rfl⟩, hF⟩

