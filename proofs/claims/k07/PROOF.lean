import PyProof.Rows.All
import Wide.All
import OpenK.AllK
import Wide.FinOn
import KE.KStateDown
import KE.KExcIs
import HandS.Base
import HandS.Call
import HandS.List
import HandS.Comp
import HandS.Ends
import HandS.Dict
import HandS.Iter
import HandS.Text
import HandS.More
import HandS.Words
import HandS.WordsList
import HandS.WordsDict
import HandS.Exc
import HandS.ExcOwn
import HandS.ExcInit
import HandS.TryOnly
import HandS.WordsExc
import HandS.Defaults
import HandS.Flow
import HandS.IsInst
import HandS.Style
import HandS.ExcIs
import HandS.ExcField
import HandS.Evl
import HandS.Wide
import HandS.Walk
import HandS.MakeKw
import HandS.MakeKwOnly
import HandS.Head0
import HandS.Head1
import HandS.Head2
import HandS.HeadEnd
import HandS.HeadHook1
import HandS.HeadHook2
import PySem.Challenge.RW_bellsaway_k07_fits_made
set_option Elab.async false
set_option linter.all false
set_option maxRecDepth 100000
set_option maxHeartbeats 4000000
/-! ## own stepping layer: one lemma a reading -/
namespace Vs
open PySem PySem.Spec PyProof.Rows L2

/-! ### frames of heaps -/
/-- all but l stands -/
def Kp (l : Addr) (H H' : Hp) : Prop := ∀ b o, H b = some o → b ≠ l → H' b = some o
theorem Kp.refl (l : Addr) (H : Hp) : Kp l H H := fun _ _ h _ => h
theorem Kp.trans {l : Addr} {H H1 H2 : Hp} (a : Kp l H H1) (b : Kp l H1 H2) : Kp l H H2 := fun x o h n => b x o (a x o h n) n
theorem Kp.upd {l : Addr} {H H1 : Hp} {o : HO} (a : Kp l H H1) : Kp l H (upd H1 l o) := fun x u h n => by rw [upd_ne n]; exact a x u h n
theorem Kp.new {l p : Addr} {H H1 : Hp} {o : HO} (a : Kp l H H1) (hp : H1 p = none) : Kp l H (L2.upd H1 p o) := fun x u h n => by
  have h1 := a x u h n
  rw [upd_ne (ne_of_none h1 hp)]; exact h1
theorem Same.new {p : Addr} {H H1 : Hp} {o : HO} (a : Same H H1) (hp : H1 p = none) : Same H (L2.upd H1 p o) := fun x u h => by
  have h1 := a x u h
  rw [upd_ne (ne_of_none h1 hp)]; exact h1
theorem Kp.updn {l p : Addr} {H H1 : Hp} {o : HO} (a : Kp l H H1) (hp : H p = none) : Kp l H (L2.upd H1 p o) := fun x u h n => by
  have h1 := a x u h n
  rw [upd_ne (ne_of_none h hp)]; exact h1
theorem Same.updn {p : Addr} {H H1 : Hp} {o : HO} (a : Same H H1) (hp : H p = none) : Same H (L2.upd H1 p o) := fun x u h => by
  have h1 := a x u h
  rw [upd_ne (ne_of_none h hp)]; exact h1
theorem Same.kp {l : Addr} {H H1 : Hp} (a : Same H H1) : Kp l H H1 := fun x u h _ => a x u h
theorem Kp.same {l : Addr} {H H1 H2 : Hp} (a : Kp l H H1) (b : Same H1 H2) : Kp l H H2 := fun x o h n => b x o (a x o h n)
theorem Same.kpt {l : Addr} {H H1 H2 : Hp} (a : Same H H1) (b : Kp l H1 H2) : Kp l H H2 := fun x o h n => b x o (a x o h) n
theorem Kp.at {l b : Addr} {H H' : Hp} {o : HO} (k : Kp l H H') (h : H b = some o) (n : b ≠ l) : H' b = some o := k b o h n
theorem free_back {H H' : Hp} {l p : Addr} {o : HO} (k : Kp l H H') (h : H' p = none) (hl : H' l = some o) : H p = none := by
  cases e : H p with
  | none => rfl
  | some u =>
    by_cases n : p = l
    · rw [n, hl] at h; cases h
    · rw [k p u e n] at h; cases h

theorem upd_old {H : Hp} {b p : Addr} {o u : HO} (hp : H p = none) (h : H b = some o) : L2.upd H p u b = some o := by rw [upd_ne (ne_of_none h hp)]; exact h
theorem Kp.seq {K : PySem.W.Frag} {l a : Addr} {H H' : Hp} {xs : List V} (k : Kp l H H') (n : a ≠ l) (h : SqL K H a xs) : SqL K H' a xs := by
  rcases h with (h | ⟨o, h⟩) | h
  · exact .inl (.inl (k _ _ h n))
  · exact .inl (.inr ⟨o, k _ _ h n⟩)
  · exact .inr h
theorem Kp.seqn {K : PySem.W.Frag} {l a : Addr} {H H' : Hp} {xs : List V} (k : Kp l H H') (hl : H l = none) (h : SqL K H a xs) : SqL K H' a xs := by
  rcases h with (h | ⟨o, h⟩) | h
  · exact .inl (.inl (k _ _ h (ne_of_none h hl)))
  · exact .inl (.inr ⟨o, k _ _ h (ne_of_none h hl)⟩)
  · exact .inr h
theorem Same.ofKp {l : Addr} {H H1 H2 : Hp} {o : HO} (s : Same H H1) (hl : H1 l = none) (k : Kp l (L2.upd H1 l o) H2) : Same H H2 := fun b u h => by
  have h1 := s b u h
  have n := ne_of_none h1 hl
  exact k b u (by rw [upd_ne n]; exact h1) n
/-! ### what is new -/
def dif (H H' : Hp) : Hp := fun b => match H b with
  | none => H' b
  | some _ => none
theorem dif_at {H H' : Hp} {b : Addr} {o : HO} (h : H b = none) (h' : H' b = some o) : dif H H' b = some o := by unfold dif; rw [h]; exact h'
theorem dif_none {H H' : Hp} {b : Addr} {o : HO} (h : H b = some o) : dif H H' b = none := by unfold dif; rw [h]
theorem dif_same {H H' : Hp} : Same (dif H H') H' := fun b o h => by
  unfold dif at h
  cases e : H b with
  | none => rw [e] at h; exact h
  | some u => rw [e] at h; cases h
theorem dif_old {H H' : Hp} {b : Addr} {o : HO} (h : dif H H' b = some o) : H b = none := by
  unfold dif at h
  cases e : H b with
  | none => rfl
  | some u => rw [e] at h; cases h
theorem Same.kpn {l : Addr} {P H H' : Hp} (a : Same P H) (k : Kp l H H') (n : P l = none) : Same P H' := fun b o h => k b o (a b o h) (ne_of_none h n)
/-! ### the law's list of cells -/
theorem cutV_len (xs : List V) (lo hi : Option Int) : (cutV xs lo hi).length ≤ xs.length := by
  unfold cutV
  rw [List.length_take, List.length_drop]
  omega
theorem cutV_mem {xs : List V} {lo hi : Option Int} {x : V} (h : x ∈ cutV xs lo hi) : x ∈ xs := List.mem_of_mem_drop (List.mem_of_mem_take h)
theorem cells_int {ns : List Int} {c : Int} {lo hi : Option Int} {x : V} (h : x ∈ [V.int c] ++ cutV (ns.map V.int) lo hi) : ∃ z, x = .int z := by
  rcases List.mem_append.mp h with h | h
  · exact ⟨c, by simpa using h⟩
  · obtain ⟨z, _, e⟩ := List.mem_map.mp (cutV_mem h)
    exact ⟨z, e.symm⟩
theorem cells_len {ns : List Int} {c : Int} {lo hi : Option Int} (h : ns.length ≤ 63) : [V.int c].length + (cutV (ns.map V.int) lo hi).length ≤ sizeLine := by
  have h1 := cutV_len (ns.map V.int) lo hi
  rw [List.length_map] at h1
  have h2 : (64 : Nat) ≤ sizeLine := by rw [sizeLine_eq]; decide
  simp only [List.length_cons, List.length_nil]
  omega
/-! ### readings, one step each -/
section
variable {K : PySem.W.Frag} {σ : L2.St} {H : Hp} {Q : VK} {ta tb te tc : TE} {x y v : V} {r r' : R2} {T U : TT} {B : Bool → Hp → Prop} {D : Ends} {i j : Int}
theorem r_var {n : Nat} (h : σ[n]? = some (some v)) (q : Q v H) : tVar n σ H Q := ⟨v, h, q⟩
theorem r_c (q : Q v H) : tC v σ H Q := q
theorem r_op (q : ta σ H fun x H1 => tb σ H1 fun y H2 => r x y H2 Q) : tOp r ta tb σ H Q := q
theorem r_un {r : V → Hp → VK → Prop} (q : ta σ H fun x H1 => r x H1 Q) : tUn r ta σ H Q := q
theorem r_I0 {g : Int → Int → V} (q : Q (g i j) H) : rI0 g (.int i) (.int j) H Q := ⟨i, j, rfl, rfl, q⟩
theorem r_I {C : Int → Int → Prop} {g : Int → Int → V} (c : C i j) (q : Q (g i j) H) : rI C g (.int i) (.int j) H Q := ⟨i, j, rfl, rfl, c, q⟩
theorem r_U {g : Int → V} (q : Q (g i) H) : rU g (.int i) H Q := ⟨i, rfl, q⟩
theorem r_eqI (q : Q (.bl (decide (i = j))) H) : rEq (.int i) (.int j) H Q := ⟨rfl, by
  have e : decide (V.int i = V.int j) = decide (i = j) := by simp
  rw [e]; exact q⟩
theorem r_neI (q : Q (.bl (!decide (i = j))) H) : rNe (.int i) (.int j) H Q := ⟨rfl, by
  have e : decide (V.int i = V.int j) = decide (i = j) := by simp
  rw [e]; exact q⟩
theorem r_eqB {a b : Bool} (q : Q (.bl (decide (a = b))) H) : rEq (.bl a) (.bl b) H Q := ⟨rfl, by
  have e : decide (V.bl a = V.bl b) = decide (a = b) := by simp
  rw [e]; exact q⟩
theorem r_neB {a b : Bool} (q : Q (.bl (!decide (a = b))) H) : rNe (.bl a) (.bl b) H Q := ⟨rfl, by
  have e : decide (V.bl a = V.bl b) = decide (a = b) := by simp
  rw [e]; exact q⟩
theorem r_eqS {a b : Str} (q : Q (.bl (decide (a = b))) H) : rEq (.str a) (.str b) H Q := ⟨rfl, by
  have e : decide (V.str a = V.str b) = decide (a = b) := by simp
  rw [e]; exact q⟩
theorem r_neS {a b : Str} (q : Q (.bl (!decide (a = b))) H) : rNe (.str a) (.str b) H Q := ⟨rfl, by
  have e : decide (V.str a = V.str b) = decide (a = b) := by simp
  rw [e]; exact q⟩
theorem r_test (q : te σ H fun x H1 => ∃ k, x = .bl k ∧ B k H1) : tTest te σ H B := q
theorem r_tB (q : te σ H fun x H1 => ∃ k, x = .bl k ∧ B k H1) : tB te σ H B := q
theorem r_isbl {k : Bool} {P : Bool → Prop} (q : P k) : ∃ c, V.bl k = .bl c ∧ P c := ⟨k, rfl, q⟩
theorem r_and (q : T σ H fun c H1 => if c = true then U σ H1 B else B false H1) : tAnd T U σ H B := q
theorem r_or (q : T σ H fun c H1 => if c = true then B true H1 else U σ H1 B) : tOr T U σ H B := q
theorem r_not (q : T σ H fun c H1 => B (!c) H1) : tNot T σ H B := q
theorem r_andV (q : ta σ H fun x H1 => ∃ c, x = .bl c ∧ if c = true then tb σ H1 Q else Q (.bl false) H1) : tAndV ta tb σ H Q := q
theorem r_orV (q : ta σ H fun x H1 => ∃ c, x = .bl c ∧ if c = true then Q (.bl true) H1 else tb σ H1 Q) : tOrV ta tb σ H Q := q
theorem r_notV (q : ta σ H fun x H1 => ∃ c, x = .bl c ∧ Q (.bl (!c)) H1) : tNotV ta σ H Q := q
theorem r_if (q : T σ H fun c H1 => if c = true then ta σ H1 Q else tb σ H1 Q) : tIf T ta tb σ H Q := q
theorem r_chain (q : ta σ H fun x H1 => tb σ H1 fun y H2 => r x y H2 fun z H3 => ∃ k, z = .bl k ∧ (if k = true then tc σ H3 fun w' H4 => r' y w' H4 Q else Q (.bl false) H3)) : tChain r r' ta tb tc σ H Q := q
theorem r_nil {A : List V → Hp → Prop} (q : A [] H) : tNil σ H A := q
theorem r_cons {tr : TA} {A : List V → Hp → Prop} (q : ta σ H fun x H1 => tr σ H1 fun xs H2 => A (x :: xs) H2) : tCons ta tr σ H A := q
theorem r_tup {t : TA} (q : t σ H fun xs H1 => xs.length ≤ sizeLine ∧ ∀ p, H1 p = none → Q (.ref p) (upd H1 p (.tup xs))) : tTup t σ H Q := q
theorem r_lst {t : TA} (q : t σ H fun xs H1 => xs.length ≤ sizeLine ∧ ∀ p, H1 p = none → Q (.ref p) (upd H1 p (.lst xs))) : tLst t σ H Q := q
theorem r_size {xs : List V} {P : Prop} (h : xs.length ≤ 1000) (q : P) : xs.length ≤ sizeLine ∧ P := ⟨Nat.le_trans h (by rw [sizeLine_eq]; decide), q⟩
theorem r_call {sp : Sp} {dvs : List V} {E : XK} {t : TA} (q : t σ H fun vs H1 => sp (vs ++ dvs) H1 Q E) : tCall sp dvs E t σ H Q := q
theorem r_call0 {sp : Sp} {E : XK} {t : TA} (q : t σ H fun vs H1 => sp vs H1 Q E) : tCall sp [] E t σ H Q := by
  show t σ H fun vs H1 => sp (vs ++ []) H1 Q E
  have e : (fun vs H1 => sp (vs ++ []) H1 Q E) = fun vs H1 => sp vs H1 Q E := by funext vs H1; rw [List.append_nil]
  rw [e]; exact q
theorem r_cb {r : List V → Hp → VK → Prop} {t : TA} (q : t σ H fun vs H1 => r vs H1 Q) : tCB r t σ H Q := q
theorem r_bm {T : String} {r : V → List V → Hp → VK → Prop} {t : TA} (q : ta σ H fun x H1 => tyV K T x H1 ∧ t σ H1 fun xs H2 => r x xs H2 Q) : tBM K T r ta t σ H Q := q
theorem r_bm0 {T : String} {r : V → List V → Hp → VK → Prop} (q : ta σ H fun x H1 => tyV K T x H1 ∧ r x [] H1 Q) : tBM0 K T r ta σ H Q := q
theorem r_seq {t u : TS} {nx bk ct : L2.St → Hp → Prop} {rt : VK} (q : t (Ends.mk (u (Ends.mk nx rt bk ct)) rt bk ct) σ H) : tSeq t u (Ends.mk nx rt bk ct) σ H := q
theorem r_brk {nx bk ct : L2.St → Hp → Prop} {rt : VK} (q : bk σ H) : tBreak (Ends.mk nx rt bk ct) σ H := q
theorem r_cont {nx bk ct : L2.St → Hp → Prop} {rt : VK} (q : ct σ H) : tCont (Ends.mk nx rt bk ct) σ H := q
theorem r_next {nx bk ct : L2.St → Hp → Prop} {rt : VK} (q : nx σ H) : tNext (Ends.mk nx rt bk ct) σ H := q
theorem r_drop {nx bk ct : L2.St → Hp → Prop} {rt : VK} (q : te σ H fun _ H1 => nx σ H1) : tDrop te (Ends.mk nx rt bk ct) σ H := q
theorem r_ret {nx bk ct : L2.St → Hp → Prop} {rt : VK} (q : te σ H rt) : tRet te (Ends.mk nx rt bk ct) σ H := q
theorem r_retN {nx bk ct : L2.St → Hp → Prop} {rt : VK} (q : rt .non H) : tRetN (Ends.mk nx rt bk ct) σ H := q
theorem r_ifS {t u : TS} (q : T σ H fun b H1 => if b = true then t D σ H1 else u D σ H1) : tIfS T t u D σ H := q
theorem r_asg {g : TG} {nx bk ct : L2.St → Hp → Prop} {rt : VK} (q : te σ H fun x H1 => g x σ H1 nx) : tAsg te g (Ends.mk nx rt bk ct) σ H := q
theorem r_gName {n : Nat} {P : L2.St → Hp → Prop} (q : P (σ.set n (some v)) H) : gName n v σ H P := q
theorem r_gSub {to ti : TE} {t : TSet} {P : L2.St → Hp → Prop} (q : to σ H fun o H1 => ti σ H1 fun i H2 => t o i v H2 fun H3 => P σ H3) : gSub to ti t v σ H P := q
theorem r_sl {r : V → Option Int → Option Int → Hp → VK → Prop} {tl th : TO} (q : te σ H fun x H1 => tl σ H1 fun l H2 => th σ H2 fun u H3 => r x l u H3 Q) : tSl r te tl th σ H Q := q
theorem r_noPart {P : Option Int → Hp → Prop} (q : P none H) : tNoPart σ H P := q
theorem r_part {P : Option Int → Hp → Prop} (q : te σ H fun x H1 => ∃ i, x = .int i ∧ P (some i) H1) : tPart te σ H P := q
theorem r_isint {P : Int → Prop} (q : P i) : ∃ k, V.int i = .int k ∧ P k := ⟨i, rfl, q⟩
theorem r_gTup {n : Nat} {t : TGs} {a : Addr} {xs : List V} {P : L2.St → Hp → Prop} (h : SqT K H a xs) (e : xs.length = n) (q : t xs σ H P) : gTup K n t (.ref a) σ H P := ⟨a, xs, rfl, h, e, q⟩
theorem r_gCons {t : TG} {u : TGs} {vs : List V} {P : L2.St → Hp → Prop} (q : t v σ H fun σ' H' => u vs σ' H' P) : gCons t u (v :: vs) σ H P := ⟨v, vs, rfl, q⟩
theorem r_gNil {P : L2.St → Hp → Prop} (q : P σ H) : gNil [] σ H P := ⟨rfl, q⟩
theorem ite_t {A B : Prop} (h : A) : if true = true then A else B := by rw [if_pos rfl]; exact h
theorem ite_f {A B : Prop} (h : B) : if false = true then A else B := by rw [if_neg Bool.false_ne_true]; exact h
theorem ite_nt {A B : Prop} (h : B) : if (!true) = true then A else B := ite_f h
theorem ite_nf {A B : Prop} (h : A) : if (!false) = true then A else B := ite_t h
theorem ite_y {p : Prop} {i : Decidable p} {A B : Prop} (hp : p) (h : A) : if decide p = true then A else B := by rw [decide_eq_true hp]; exact ite_t h
theorem ite_n {p : Prop} {i : Decidable p} {A B : Prop} (hp : ¬ p) (h : B) : if decide p = true then A else B := by rw [decide_eq_false hp]; exact ite_f h
theorem ite_ny {p : Prop} {i : Decidable p} {A B : Prop} (hp : p) (h : B) : if (!decide p) = true then A else B := by rw [decide_eq_true hp]; exact ite_f h
theorem ite_nn {p : Prop} {i : Decidable p} {A B : Prop} (hp : ¬ p) (h : A) : if (!decide p) = true then A else B := by rw [decide_eq_false hp]; exact ite_t h
theorem ite_d {p : Prop} {i : Decidable p} {A B : Prop} (h1 : p → A) (h2 : ¬ p → B) : if decide p = true then A else B := by
  by_cases h : p
  · exact ite_y h (h1 h)
  · exact ite_n h (h2 h)
theorem ite_nd {p : Prop} {i : Decidable p} {A B : Prop} (h1 : ¬ p → A) (h2 : p → B) : if (!decide p) = true then A else B := by
  by_cases h : p
  · exact ite_ny h (h2 h)
  · exact ite_nn h (h1 h)
theorem upd2 {H : Hp} {a : Addr} {o u : HO} : upd (upd H a o) a u = upd H a u := upd_upd
theorem upd_id {H : Hp} {a : Addr} {o : HO} (h : H a = some o) : upd H a o = H := by
  funext b
  by_cases hb : b = a
  · rw [hb, upd_same, h]
  · rw [upd_ne hb]
theorem q_t {Q : VK} {H : Hp} {p : Prop} {i : Decidable p} (hp : p) (q : Q (.bl true) H) : Q (.bl (@decide p i)) H := by rw [decide_eq_true hp]; exact q
theorem ite_d' {p : Prop} {i : Decidable p} {A B : Prop} (h1 : p → B) (h2 : ¬ p → A) : if (!decide p) = true then A else B := ite_nd h2 h1
theorem ite_bt {b : Bool} {A B : Prop} (h : b = true) (q : A) : if b = true then A else B := by rw [h]; exact ite_t q
theorem ite_bf {b : Bool} {A B : Prop} (h : b = false) (q : B) : if b = true then A else B := by rw [h]; exact ite_f q
theorem q_bl {Q : VK} {H : Hp} {b c : Bool} (h : b = c) (q : Q (.bl b) H) : Q (.bl c) H := h ▸ q
theorem ite_b {b : Bool} {A B : Prop} (h1 : b = true → A) (h2 : b = false → B) : if b = true then A else B := by
  cases b
  · exact ite_f (h2 rfl)
  · exact ite_t (h1 rfl)
/-! items -/
theorem r_ixL {p : Addr} {xs : List V} (h : SqL K H p xs) (ha : atI xs i = some v) (q : Q v H) : rIx K (.ref p) (.int i) H Q := .inl ⟨p, xs, i, v, rfl, rfl, h, ha, q⟩
theorem r_ixT {p : Addr} {xs : List V} (h : SqT K H p xs) (ha : atI xs i = some v) (q : Q v H) : rIx K (.ref p) (.int i) H Q := .inr (.inl ⟨p, xs, i, v, rfl, rfl, h, ha, q⟩)
theorem r_ixS {z : Str} {c : Nat} (h : z.length ≤ sizeLine) (ha : atI z.cps.toList i = some c) (q : Q (.str ⟨#[c]⟩) H) : rIx K (.str z) (.int i) H Q := .inr (.inr ⟨z, i, c, rfl, rfl, h, ha, q⟩)
theorem r_setL {p : Addr} {xs : List V} {n : Nat} {P : Hp → Prop} (h : H p = some (.lst xs)) (e : ixN xs.length i = some n) (q : P (upd H p (.lst (xs.set n v)))) : rSetL (.ref p) (.int i) v H P := ⟨p, xs, i, n, rfl, rfl, h, e, q⟩
theorem r_slL {p : Addr} {xs : List V} {lo hi : Option Int} (h : SqL K H p xs) (q : ∀ a, H a = none → Q (.ref a) (upd H a (.lst (cutV xs lo hi)))) : rSlL K (.ref p) lo hi H Q := ⟨p, xs, rfl, h, q⟩
theorem r_cat {p b : Addr} {xs ys : List V} (h : H p = some (.lst xs)) (h2 : H b = some (.lst ys)) (hl : xs.length + ys.length ≤ sizeLine) (q : ∀ a, H a = none → Q (.ref a) (upd H a (.lst (xs ++ ys)))) : rCat (.ref p) (.ref b) H Q := ⟨p, b, xs, ys, rfl, rfl, h, h2, hl, q⟩
theorem r_app {p : Addr} {xs : List V} (h : H p = some (.lst xs)) (hl : xs.length < sizeLine) (q : Q .non (upd H p (.lst (xs ++ [v])))) : rAppend (.ref p) [v] H Q := ⟨p, xs, v, rfl, rfl, h, hl, q⟩
theorem r_tyl {p : Addr} {xs : List V} {P : Prop} (h : H p = some (.lst xs)) (q : P) : tyV K "list" (.ref p) H ∧ P := ⟨Or.inl ⟨rfl, _, Or.inl (Or.inl h)⟩, q⟩
theorem r_isB {a b : Bool} (q : Q (.bl (decide (a = b))) H) : rIsB (.bl a) (.bl b) H Q := ⟨a, b, rfl, rfl, q⟩
theorem r_notB {a b : Bool} (q : Q (.bl (!decide (a = b))) H) : rNotB (.bl a) (.bl b) H Q := ⟨a, b, rfl, rfl, q⟩
theorem r_rep {p : Addr} {xs : List V} (h : H p = some (.lst xs)) (h0 : 0 ≤ i) (h1 : i ≤ 100000) (hl : xs.length * i.toNat ≤ sizeLine) (q : ∀ a, H a = none → Q (.ref a) (upd H a (.lst ((List.replicate i.toNat xs).flatten)))) : rRep (.ref p) (.int i) H Q := ⟨p, i, xs, rfl, rfl, h, by omega, by omega, hl, q⟩
/-! data compared -/
theorem r_eqDe {d e : PyData} (hx : Dp K H x d) (hy : Dp K H y e) (sd : SeqAt.shaped d = true) (h : d = e) (q : Q (.bl true) H) : rEqD K x y H Q := ⟨d, e, hx, hy, sd, h ▸ sd, by rw [← h, SeqAt.eqv_refl _ (SeqAt.canLay_of_shaped sd)]; exact q⟩
theorem r_neDe {d e : PyData} (hx : Dp K H x d) (hy : Dp K H y e) (sd : SeqAt.shaped d = true) (h : d = e) (q : Q (.bl false) H) : rNeD K x y H Q := ⟨d, e, hx, hy, sd, h ▸ sd, by rw [← h, SeqAt.eqv_refl _ (SeqAt.canLay_of_shaped sd)]; exact q⟩
/-! built-ins by name -/
def rInt1 : List V → Hp → VK → Prop := fun xs H Q => (∃ i, xs = [.int i] ∧ Q (.int i) H) ∨ ∃ k : Bool, xs = [.bl k] ∧ Q (.int (if k then 1 else 0)) H
def rDivmod : List V → Hp → VK → Prop := fun xs H Q => ∃ i j, xs = [.int i, .int j] ∧ CDiv i j ∧ ∀ p, H p = none → Q (.ref p) (upd H p (.tup [.int (i / j), .int (i % j)]))
def rMin2 : List V → Hp → VK → Prop := fun xs H Q => ∃ i j : Int, xs = [.int i, .int j] ∧ Q (.int (if j < i then j else i)) H
def rMax2 : List V → Hp → VK → Prop := fun xs H Q => ∃ i j : Int, xs = [.int i, .int j] ∧ Q (.int (if j > i then j else i)) H
def rAddS : R2 := fun x y H Q => ∃ i j, x = .str i ∧ y = .str j ∧ i.length + j.length ≤ sizeLine ∧ Q (.str (i ++ j)) H
def rIsN : R2 := fun x y H Q => y = .non ∧ Q (.bl (decide (x = .non))) H
def rNotN : R2 := fun x y H Q => y = .non ∧ Q (.bl (!decide (x = .non))) H
def tTru (K : PySem.W.Frag) (ta : TE) : TT := fun σ H Q => ta σ H fun x H' => ∃ k, TruV K x H' k ∧ Q k H'
theorem r_min2 (q : Q (.int (if j < i then j else i)) H) : rMin2 [.int i, .int j] H Q := ⟨i, j, rfl, q⟩
theorem r_max2 (q : Q (.int (if j > i then j else i)) H) : rMax2 [.int i, .int j] H Q := ⟨i, j, rfl, q⟩
theorem r_lenL {p : Addr} {xs : List V} (h : SqL K H p xs) (q : Q (.int (xs.length : Nat)) H) : rLen K [.ref p] H Q := ⟨_, _, rfl, .inl ⟨_, h, rfl⟩, q⟩
theorem r_lenT {p : Addr} {xs : List V} (h : SqT K H p xs) (q : Q (.int (xs.length : Nat)) H) : rLen K [.ref p] H Q := ⟨_, _, rfl, .inr ⟨_, h, rfl⟩, q⟩
theorem r_lenS {z : Str} (h : z.length ≤ sizeLine) (q : Q (.int (z.length : Nat)) H) : rLen K [.str z] H Q := ⟨_, _, rfl, ⟨h, rfl⟩, q⟩
theorem r_int1i (q : Q (.int i) H) : rInt1 [.int i] H Q := .inl ⟨_, rfl, q⟩
theorem r_int1b {b : Bool} (q : Q (.int (if b then 1 else 0)) H) : rInt1 [.bl b] H Q := .inr ⟨_, rfl, q⟩
theorem r_divmod (c : CDiv i j) (q : ∀ p, H p = none → Q (.ref p) (upd H p (.tup [.int (i / j), .int (i % j)]))) : rDivmod [.int i, .int j] H Q := ⟨i, j, rfl, c, q⟩
theorem r_isi {a b : String} {c : Bool} (ty : TyX K H x (.type a)) (h : kitB a b = some c) (q : Q (.bl c) H) : rIsi K [x, .ty b] H Q := ⟨x, _, _, _, c, rfl, .ty b, ty, kit_ty h, q⟩
theorem r_isN (q : Q (.bl (decide (x = .non))) H) : rIsN x .non H Q := ⟨rfl, q⟩
theorem r_notN (q : Q (.bl (!decide (x = .non))) H) : rNotN x .non H Q := ⟨rfl, q⟩
theorem r_tru {b : Bool} (h : te σ H fun x H1 => ∃ k, TruV K x H1 k ∧ B k H1) : tTru K te σ H B := h
end
theorem pe_pow2 {X : Cx} {a b r : Int} {j j' p p' pos} (h : a ^ b.toNat = r) (hc : CPow a b) : PE X (.BinOp (.Constant (.int a) j p) .Pow (.Constant (.int b) j' p') pos) (tC (.int r)) :=
  ⟨fun pins s σ H Q I hq => (pe_op op_pow pe_int pe_int).run pins s σ H Q I ⟨a, b, rfl, rfl, hc, (show Q (.int (a ^ b.toNat)) H from by rw [h]; exact hq)⟩⟩
/-! ### loops -/
section
variable {K : PySem.W.Frag} {σ : L2.St} {H : Hp} {D : Ends} {g : TG} {tb : TS} {ta : TA} {te : TE} {wi : TI} {R : It → Hp → Prop}
def ForW (J : It) (g : TG) (tb : TS) (D : Ends) (σ : L2.St) (H1 : Hp) : Prop := ∃ W : Nat → Nat → L2.St → Hp → Prop, (∃ m, W 0 m σ H1) ∧ ∀ i m σ H, W i m σ H →
  (J.stop i H ∧ D.nx σ H) ∨ (J.go i H ∧ ∃ N : L2.St → Hp → Prop, (∀ σ' H', N σ' H' → ∃ m', m' < m ∧ W (i + 1) m' σ' H') ∧ ∀ x H', J.yld i H x H' → g x σ H' fun σ2 H2 => tb { D with nx := N, ct := N, bk := D.nx } σ2 H2)
theorem r_for (q : wi σ H fun J H1 => ForW J g tb D σ H1) : tFor wi g tb D σ H := q
section
variable {nx bk ct : L2.St → Hp → Prop} {rt : VK}
/-- over a list that stands; what follows a turn is a letter -/
theorem r_loopL {p : Addr} {xs : List V} (Pv : Nat → L2.St → Hp → Prop) (hx : SqL K H p xs) (h0 : Pv 0 σ H) (hl : ∀ i σ' H', Pv i σ' H' → SqL K H' p xs)
    (hs : ∀ (i : Nat) (x : V) (σ' : L2.St) (H' : Hp) (N : L2.St → Hp → Prop), xs[i]? = some x → Pv i σ' H' → (∀ σ2 H2, Pv (i + 1) σ2 H2 → N σ2 H2) → g x σ' H' fun σ2 H2 => tb (Ends.mk N rt nx N) σ2 H2)
    (hd : ∀ σ' H', Pv xs.length σ' H' → nx σ' H') : ∃ a, V.ref p = .ref a ∧ (∃ xs, SqL K H a xs) ∧ ForW (Itl K a) g tb (Ends.mk nx rt bk ct) σ H :=
  ⟨p, rfl, ⟨xs, hx⟩, for_list (D := Ends.mk nx rt bk ct) Pv h0 (fun i σ' H' _ p => hl i σ' H' p) (fun i x σ' H' hi p => hs i x σ' H' _ hi p fun _ _ z => z) hd⟩
theorem r_loopT {p : Addr} {xs : List V} (Pv : Nat → L2.St → Hp → Prop) (hx : SqT K H p xs) (h0 : Pv 0 σ H) (hl : ∀ i σ' H', Pv i σ' H' → SqT K H' p xs)
    (hs : ∀ (i : Nat) (x : V) (σ' : L2.St) (H' : Hp) (N : L2.St → Hp → Prop), xs[i]? = some x → Pv i σ' H' → (∀ σ2 H2, Pv (i + 1) σ2 H2 → N σ2 H2) → g x σ' H' fun σ2 H2 => tb (Ends.mk N rt nx N) σ2 H2)
    (hd : ∀ σ' H', Pv xs.length σ' H' → nx σ' H') : ∃ a, V.ref p = .ref a ∧ (∃ xs, SqT K H a xs) ∧ ForW (Itt K a) g tb (Ends.mk nx rt bk ct) σ H :=
  ⟨p, rfl, ⟨xs, hx⟩, for_tup (D := Ends.mk nx rt bk ct) Pv h0 (fun i σ' H' _ p => hl i σ' H' p) (fun i x σ' H' hi p => hs i x σ' H' _ hi p fun _ _ z => z) hd⟩
theorem r_loopR1 {j : Int} (Pv : Nat → L2.St → Hp → Prop) (b : -1000000000 ≤ j ∧ j ≤ 1000000000) (h0 : Pv 0 σ H)
    (hs : ∀ (i : Nat) (σ' : L2.St) (H' : Hp) (N : L2.St → Hp → Prop), i < j.toNat → Pv i σ' H' → (∀ σ2 H2, Pv (i + 1) σ2 H2 → N σ2 H2) → g (.int (i : Int)) σ' H' fun σ2 H2 => tb (Ends.mk N rt nx N) σ2 H2)
    (hd : ∀ σ' H', Pv j.toNat σ' H' → nx σ' H') : ∃ k : Int, [V.int j] = [.int k] ∧ -(2 ^ 62) ≤ k ∧ k < 2 ^ 62 ∧ ForW (Itr 0 k.toNat) g tb (Ends.mk nx rt bk ct) σ H :=
  ⟨j, rfl, by omega, by omega, for_range (D := Ends.mk nx rt bk ct) Pv h0 (fun i σ' H' hi p => by
    have e : (0 : Int) + (i : Int) = (i : Int) := Int.zero_add _
    rw [e]
    exact hs i σ' H' _ hi p fun _ _ z => z) hd⟩
theorem r_loopR2 {a j : Int} (Pv : Nat → L2.St → Hp → Prop) (b : -1000000000000000 ≤ a ∧ a ≤ 1000000000000000 ∧ -1000000000000000 ≤ j ∧ j ≤ 1000000000000000) (h0 : Pv 0 σ H)
    (hs : ∀ (i : Nat) (σ' : L2.St) (H' : Hp) (N : L2.St → Hp → Prop), i < (j - a).toNat → Pv i σ' H' → (∀ σ2 H2, Pv (i + 1) σ2 H2 → N σ2 H2) → g (.int (a + (i : Int))) σ' H' fun σ2 H2 => tb (Ends.mk N rt nx N) σ2 H2)
    (hd : ∀ σ' H', Pv (j - a).toNat σ' H' → nx σ' H') : ∃ k l : Int, [V.int a, V.int j] = [.int k, .int l] ∧ (-(2 ^ 62) ≤ k ∧ k < 2 ^ 62 ∧ -(2 ^ 62) ≤ l ∧ l < 2 ^ 62) ∧ ForW (Itr k (l - k).toNat) g tb (Ends.mk nx rt bk ct) σ H :=
  ⟨a, j, rfl, ⟨by omega, by omega, by omega, by omega⟩, for_range (D := Ends.mk nx rt bk ct) Pv h0 (fun i σ' H' hi p => hs i σ' H' _ hi p fun _ _ z => z) hd⟩
end
theorem r_iList (q : te σ H fun x H1 => ∃ a, x = .ref a ∧ (∃ xs, SqL K H1 a xs) ∧ R (Itl K a) H1) : iList K te σ H R := q
theorem r_iTup (q : te σ H fun x H1 => ∃ a, x = .ref a ∧ (∃ xs, SqT K H1 a xs) ∧ R (Itt K a) H1) : iTup K te σ H R := q
theorem r_iRng1 (q : ta σ H fun vs H1 => ∃ j : Int, vs = [.int j] ∧ -(2 ^ 62) ≤ j ∧ j < 2 ^ 62 ∧ R (Itr 0 j.toNat) H1) : iRng1 ta σ H R := q
theorem r_iRng2 (q : ta σ H fun vs H1 => ∃ i j : Int, vs = [.int i, .int j] ∧ (-(2 ^ 62) ≤ i ∧ i < 2 ^ 62 ∧ -(2 ^ 62) ≤ j ∧ j < 2 ^ 62) ∧ R (Itr i (j - i).toNat) H1) : iRng2 ta σ H R := q
end
/-- behind a statement a word, from which the rest is shown once -/
theorem r_cut {t u : TS} {σ : L2.St} {H : Hp} {nx bk ct : L2.St → Hp → Prop} {rt : VK} (M : L2.St → Hp → Prop) (h : t (Ends.mk M rt bk ct) σ H) (k : ∀ σ' H', M σ' H' → u (Ends.mk nx rt bk ct) σ' H') : Evl.tCut t u (Ends.mk nx rt bk ct) σ H := ⟨M, h, k⟩
/-! ### ranges by a step -/
theorem rg_up {a b c : Int} (h1 : 1 ≤ c) (h2 : c ≤ 1000000) (ha : -1000000000 ≤ a) (ha' : a ≤ 1000000000) (hb : -1000000000 ≤ b) (hb' : b ≤ 1000000000) : RgC a b c (if a < b then ((b - a - 1) / c + 1).toNat else 0) := by
  have hc : c > 0 := by omega
  have e : Builtin.Range.rangeSize a b c = if a < b then (b - a - 1) / c + 1 else 0 := by
    unfold Builtin.Range.rangeSize
    rw [if_pos hc]
  by_cases hab : a < b
  · have q0 : 0 ≤ (b - a - 1) / c := Int.ediv_nonneg (by omega) (by omega)
    have q1 : (b - a - 1) / c ≤ b - a - 1 := Int.ediv_le_self _ (by omega)
    have q2 : (b - a - 1) / c * c ≤ b - a - 1 := Int.ediv_mul_le _ (by omega)
    rw [if_pos hab] at e ⊢
    refine ⟨by omega, by omega, ?_, ?_⟩
    · unfold Builtin.Range.small
      rw [e]
      have q3 : ((b - a - 1) / c + 1) * c = (b - a - 1) / c * c + c := by rw [Int.add_mul, Int.one_mul]
      have q4 : ((b - a - 1) / c + 1 - 1) * c = (b - a - 1) / c * c := by rw [Int.add_sub_cancel]
      have q5 : 0 ≤ (b - a - 1) / c * c := Int.mul_nonneg q0 (by omega)
      simp only [Builtin.Range.rangeFitsLong, Bool.and_eq_true, Bool.or_eq_true, decide_eq_true_eq, beq_iff_eq, hc, if_true]
      first | omega | (simp only [q3, q4]; omega) | (split <;> omega)
    · rw [e]; omega
  · rw [if_neg hab] at e ⊢
    refine ⟨by omega, by omega, ?_, ?_⟩
    · unfold Builtin.Range.small
      rw [e]
      simp only [Builtin.Range.rangeFitsLong, Bool.and_eq_true, Bool.or_eq_true, decide_eq_true_eq, beq_iff_eq, hc, if_true]
      first | omega | (split <;> omega) | simp <;> omega
    · rw [e]; rfl
/-! ### comprehensions whose elements leave the heap -/
section
variable {K : PySem.W.Frag} {σ : L2.St} {H : Hp} {Q : VK} {g : TG} {tt : TT} {te : TE} {wi : TI} {ws : List Nat}
def LcW (J : It) (g : TG) (tt : TT) (te : TE) (vs : List Nat) (σ : L2.St) (H1 : Hp) (Q : VK) : Prop := ∀ D, H1 D = none → ∃ W : Nat → Nat → Hp → Prop, (∃ m, W 0 m (upd H1 D (.lst []))) ∧ ∀ i m H, W i m H →
  (J.stop i H ∧ Q (.ref D) H) ∨ (J.go i H ∧ ∃ Nx : Hp → Prop, (∀ H', Nx H' → ∃ m', m' < m ∧ W (i + 1) m' H') ∧ ∀ x H', J.yld i H x H' → g x (wipe σ vs) H' fun σ2 H2 => wipe σ2 vs = wipe σ vs ∧ tt σ2 H2 fun b H3 =>
    if b = true then te σ2 H3 fun y H4 => ∃ acc, H4 D = some (.lst acc) ∧ acc.length < sizeLine ∧ Nx (upd H4 D (.lst (acc ++ [y]))) else Nx H3)
theorem r_lc (q : wi σ H fun J H1 => LcW J g tt te ws σ H1 Q) : tLc wi g tt te ws σ H Q := q
theorem map_step {xs : List V} {f : V → V} {i : Nat} {x : V} (h : xs[i]? = some x) : (xs.take i).map f ++ [f x] = (xs.take (i + 1)).map f := by
  have hl : i < xs.length := (List.getElem?_eq_some_iff.mp h).1
  have e : xs.take (i + 1) = xs.take i ++ [x] := by
    rw [List.take_add_one, h]; rfl
  rw [e, List.map_append]; rfl
/-- over a list, no test -/
theorem r_lcP {j : Nat} {p : Addr} {xs : List V} (f : V → V) (hx : SqL K H p xs) (hz : xs.length ≤ 100000) (hw : ∀ x, wipe ((wipe σ ws).set j (some x)) ws = wipe σ ws)
    (he : ∀ (x : V) (D : Addr) (acc : List V) (Q' : VK), x ∈ xs → H D = none → Q' (f x) (upd H D (.lst acc)) → te ((wipe σ ws).set j (some x)) (upd H D (.lst acc)) Q') (q : ∀ D, H D = none → Q (.ref D) (upd H D (.lst (xs.map f)))) :
    ∃ a, V.ref p = .ref a ∧ (∃ xs, SqL K H a xs) ∧ LcW (Itl K a) (gName j) tYes te ws σ H Q := by
  refine ⟨p, rfl, ⟨xs, hx⟩, fun D hD => lc_list (K := K) (a := p) (xs := xs) (fun i H' => H' = upd H D (.lst ((xs.take i).map f))) (by simp) (fun i H' _ e => ?_) (fun i x H' hi e => ?_) (fun H' e => ?_)⟩
  · rw [e]; exact Same.seq (Same.new (Same.refl H) hD) hx
  · subst e
    refine ⟨hw x, ?_⟩
    show te _ _ _
    refine he x D _ _ (List.mem_of_getElem? hi) hD ⟨_, upd_same, ?_, ?_⟩
    · rw [List.length_map, List.length_take]
      have h2 : (100000 : Nat) < sizeLine := by rw [sizeLine_eq]; decide
      omega
    · rw [upd2, map_step hi]
  · subst e
    rw [List.take_length]
    exact q D hD
theorem r_lcPT {j : Nat} {p : Addr} {xs : List V} (f : V → V) (hx : SqT K H p xs) (hz : xs.length ≤ 100000) (hw : ∀ x, wipe ((wipe σ ws).set j (some x)) ws = wipe σ ws)
    (he : ∀ (x : V) (D : Addr) (acc : List V) (Q' : VK), x ∈ xs → H D = none → Q' (f x) (upd H D (.lst acc)) → te ((wipe σ ws).set j (some x)) (upd H D (.lst acc)) Q') (q : ∀ D, H D = none → Q (.ref D) (upd H D (.lst (xs.map f)))) :
    ∃ a, V.ref p = .ref a ∧ (∃ xs, SqT K H a xs) ∧ LcW (Itt K a) (gName j) tYes te ws σ H Q := by
  refine ⟨p, rfl, ⟨xs, hx⟩, fun D hD => lc_tup (K := K) (a := p) (xs := xs) (fun i H' => H' = upd H D (.lst ((xs.take i).map f))) (by simp) (fun i H' _ e => ?_) (fun i x H' hi e => ?_) (fun H' e => ?_)⟩
  · rw [e]
    rcases hx with (h | ⟨o, h⟩) | h
    · exact .inl (.inl (Same.new (Same.refl H) hD _ _ h))
    · exact .inl (.inr ⟨o, Same.new (Same.refl H) hD _ _ h⟩)
    · exact .inr h
  · subst e
    refine ⟨hw x, ?_⟩
    show te _ _ _
    refine he x D _ _ (List.mem_of_getElem? hi) hD ⟨_, upd_same, ?_, ?_⟩
    · rw [List.length_map, List.length_take]
      have h2 : (100000 : Nat) < sizeLine := by rw [sizeLine_eq]; decide
      omega
    · rw [upd2, map_step hi]
  · subst e
    rw [List.take_length]
    exact q D hD
theorem r_all {p : Addr} {bs : List Bool} (h : SqL K H p (bs.map V.bl)) (q : Q (.bl (bs.all id)) H) : rAll K [.ref p] H Q := ⟨p, bs, rfl, h, q⟩
theorem r_sum {p : Addr} {ns : List Int} (h : SqL K H p (ns.map V.int)) (q : Q (.int ns.sum) H) : rSum K [.ref p] H Q := ⟨p, ns, rfl, h, q⟩
theorem r_any {p : Addr} {bs : List Bool} (h : SqL K H p (bs.map V.bl)) (q : Q (.bl (bs.any id)) H) : rAny K [.ref p] H Q := ⟨p, bs, rfl, h, q⟩
end
/-! ### while -/
section
variable {σ : L2.St} {H : Hp} {c : TT} {tb : TS} {nx bk ct : L2.St → Hp → Prop} {rt : VK}
/-- what is wanted behind a while's test -/
def WhB (W : Nat → L2.St → Hp → Prop) (m : Nat) (tb : TS) (nx : L2.St → Hp → Prop) (rt : VK) (b : Bool) (σ : L2.St) (H : Hp) : Prop :=
  if b = true then ∃ N : L2.St → Hp → Prop, (∀ σ' H', N σ' H' → ∃ m', m' < m ∧ W m' σ' H') ∧ tb (Ends.mk N rt nx N) σ H else nx σ H
theorem whB {W : Nat → L2.St → Hp → Prop} {m : Nat} {b : Bool} (h1 : b = true → ∀ N : L2.St → Hp → Prop, (∀ m' σ2 H2, m' < m → W m' σ2 H2 → N σ2 H2) → tb (Ends.mk N rt nx N) σ H) (h2 : b = false → nx σ H) : WhB W m tb nx rt b σ H := by
  cases b with
  | true => exact ite_t ⟨_, fun _ _ z => z, h1 rfl _ fun m' σ2 H2 a b => ⟨m', a, b⟩⟩
  | false => exact ite_f (h2 rfl)
theorem r_while (W : Nat → L2.St → Hp → Prop) (m0 : Nat) (h0 : W m0 σ H)
    (hs : ∀ (m : Nat) (σ' : L2.St) (H' : Hp), W m σ' H' → c σ' H' fun b H1 => WhB W m tb nx rt b σ' H1) : tWhile c tb (Ends.mk nx rt bk ct) σ H := ⟨W, ⟨m0, h0⟩, hs⟩
end
theorem r_iRng3 {σ : L2.St} {H : Hp} {ta : TA} {R : It → Hp → Prop} (q : ta σ H fun vs H1 => ∃ (i j c : Int) (n : Nat), vs = [.int i, .int j, .int c] ∧ RgC i j c n ∧ R (Itc i c n) H1) : iRng3 ta σ H R := q
theorem r_loopR3 {σ : L2.St} {H : Hp} {g : TG} {tb : TS} {nx bk ct : L2.St → Hp → Prop} {rt : VK} {a b c : Int} (Pv : Nat → L2.St → Hp → Prop) (h1 : 1 ≤ c ∧ c ≤ 1000000) (ha : -1000000000 ≤ a ∧ a ≤ 1000000000) (hb : -1000000000 ≤ b ∧ b ≤ 1000000000) (h0 : Pv 0 σ H)
    (hs : ∀ (i : Nat) (σ' : L2.St) (H' : Hp) (N : L2.St → Hp → Prop), i < (if a < b then ((b - a - 1) / c + 1).toNat else 0) → Pv i σ' H' → (∀ σ2 H2, Pv (i + 1) σ2 H2 → N σ2 H2) → g (.int (a + (i : Nat) * c)) σ' H' fun σ2 H2 => tb (Ends.mk N rt nx N) σ2 H2)
    (hd : ∀ σ' H', Pv (if a < b then ((b - a - 1) / c + 1).toNat else 0) σ' H' → nx σ' H') :
    ∃ (i j k : Int) (n : Nat), [V.int a, V.int b, V.int c] = [.int i, .int j, .int k] ∧ RgC i j k n ∧ ForW (Itc i k n) g tb (Ends.mk nx rt bk ct) σ H :=
  ⟨a, b, c, _, rfl, rg_up h1.1 h1.2 ha.1 ha.2 hb.1 hb.2, for_rangeC (D := Ends.mk nx rt bk ct) Pv h0 (fun i σ' H' hi p => hs i σ' H' _ hi p fun _ _ z => z) hd⟩
/-! ### tests that leave the heap: what they tell as one proposition -/
def Pu (T : TT) (σ : L2.St) (H : Hp) (p : Prop) : Prop := ∃ b : Bool, (b = true ↔ p) ∧ ∀ B : Bool → Hp → Prop, B b H → T σ H B
section
variable {σ : L2.St} {H : Hp} {T U : TT} {p q : Prop} {D : Ends} {t u : TS} {ta tb : TE} {Q : VK}
theorem pu_and (h1 : Pu T σ H p) (h2 : p → Pu U σ H q) : Pu (tAnd T U) σ H (p ∧ q) := by
  obtain ⟨b, e, h1⟩ := h1
  cases b with
  | false => exact ⟨false, ⟨fun z => (nomatch z), fun z => e.mpr z.1⟩, fun B hB => h1 _ (ite_f hB)⟩
  | true =>
    obtain ⟨c, e2, h2⟩ := h2 (e.mp rfl)
    exact ⟨c, ⟨fun z => ⟨e.mp rfl, e2.mp z⟩, fun z => e2.mpr z.2⟩, fun B hB => h1 _ (ite_t (h2 _ hB))⟩
theorem pu_or (h1 : Pu T σ H p) (h2 : ¬ p → Pu U σ H q) : Pu (tOr T U) σ H (p ∨ q) := by
  obtain ⟨b, e, h1⟩ := h1
  cases b with
  | true => exact ⟨true, ⟨fun _ => .inl (e.mp rfl), fun _ => rfl⟩, fun B hB => h1 _ (ite_t hB)⟩
  | false =>
    have hn : ¬ p := fun z => nomatch e.mpr z
    obtain ⟨c, e2, h2⟩ := h2 hn
    exact ⟨c, ⟨fun z => .inr (e2.mp z), fun z => z.elim (fun y => absurd y hn) e2.mpr⟩, fun B hB => h1 _ (ite_f (h2 _ hB))⟩
theorem pu_not (h1 : Pu T σ H p) : Pu (tNot T) σ H (¬ p) := by
  obtain ⟨b, e, h1⟩ := h1
  refine ⟨!b, ?_, fun B hB => h1 _ hB⟩
  cases b
  · exact ⟨fun _ z => (nomatch e.mpr z), fun _ => rfl⟩
  · exact ⟨fun z => (nomatch z), fun z => absurd (e.mp rfl) z⟩
theorem dec_n {i : Decidable p} : (!(@decide p i)) = true ↔ ¬ p := by
  cases i with
  | isTrue y => exact ⟨fun z => (nomatch z), fun n => absurd y n⟩
  | isFalse y => exact ⟨fun _ => y, fun _ => rfl⟩
theorem pu_x (h : False) : Pu T σ H True := h.elim
theorem pu_d {i : Decidable p} (h : ∀ B : Bool → Hp → Prop, B (@decide p i) H → T σ H B) : Pu T σ H p := ⟨@decide p i, ⟨of_decide_eq_true, decide_eq_true⟩, h⟩
theorem pu_n {i : Decidable p} (h : ∀ B : Bool → Hp → Prop, B (!(@decide p i)) H → T σ H B) : Pu T σ H (¬ p) := ⟨!(@decide p i), dec_n, h⟩
theorem pu_b {b : Bool} (h : ∀ B : Bool → Hp → Prop, B b H → T σ H B) : Pu T σ H (b = true) := ⟨b, Iff.rfl, h⟩
theorem pu_nb {b : Bool} (h : ∀ B : Bool → Hp → Prop, B (!b) H → T σ H B) : Pu T σ H (b = false) := ⟨!b, by cases b <;> decide, h⟩
theorem r_ifP (hT : Pu T σ H p) (h1 : p → t D σ H) (h2 : ¬ p → u D σ H) : tIfS T t u D σ H := by
  obtain ⟨b, e, h⟩ := hT
  cases b with
  | true => exact h _ (ite_t (h1 (e.mp rfl)))
  | false => exact h _ (ite_f (h2 fun z => nomatch e.mpr z))
theorem r_tifP (hT : Pu T σ H p) (h1 : p → ta σ H Q) (h2 : ¬ p → tb σ H Q) : tIf T ta tb σ H Q := by
  obtain ⟨b, e, h⟩ := hT
  cases b with
  | true => exact h _ (ite_t (h1 (e.mp rfl)))
  | false => exact h _ (ite_f (h2 fun z => nomatch e.mpr z))
theorem r_ifPy (hT : Pu T σ H p) (hp : p) (h1 : t D σ H) : tIfS T t u D σ H := r_ifP hT (fun _ => h1) fun n => absurd hp n
theorem r_ifPn (hT : Pu T σ H p) (hp : ¬ p) (h1 : u D σ H) : tIfS T t u D σ H := r_ifP hT (fun n => absurd n hp) fun _ => h1
theorem r_tifPy (hT : Pu T σ H p) (hp : p) (h1 : ta σ H Q) : tIf T ta tb σ H Q := r_tifP hT (fun _ => h1) fun n => absurd hp n
theorem r_tifPn (hT : Pu T σ H p) (hp : ¬ p) (h1 : tb σ H Q) : tIf T ta tb σ H Q := r_tifP hT (fun n => absurd n hp) fun _ => h1
end
end Vs

/-! ## own exceptions: what is raised, caught, asked -/
namespace Vs
open PySem PySem.Spec PyProof.Rows L2
/-- isinstance(e, c) of the exception that a suite holds -/
def rIsX (K : PySem.W.Frag) (cls : Value) (d : Option Addr) (a : Addr) : List V → Hp → VK → Prop := fun xs H Q =>
  ∃ (c : V) (cv : Value) (D : Addr) (b : Bool), xs = [.ref a, c] ∧ cls = .ref D ∧ d = none ∧ ExcC K D ∧ ClsV c cv ∧ PySem.W.kitOne K (.ref D) cv = some b ∧ Q (.bl b) H
def rIsXT (K : PySem.W.Frag) (cls : Value) (d : Option Addr) (a : Addr) : List V → Hp → VK → Prop := fun xs H Q =>
  ∃ (tp : Addr) (cs : List V) (us : List Value) (D : Addr) (b : Bool), xs = [.ref a, .ref tp] ∧ H tp = some (.tup cs) ∧ cls = .ref D ∧ d = none ∧ ExcC K D ∧ Paired ClsV cs us ∧ PySem.W.kitAny K (.ref D) us = some b ∧ Q (.bl b) H
theorem call_isX {X : Cx} {a : Addr} {oe : Obj} {cls : Value} {d : Option Addr} {pn : List (Addr × Obj)} (hz : Zc cls d oe) (hf : ∃ vs, oe.data = .fields vs) : CallR (X.suite a ((a, oe) :: pn)) (.builtin "isinstance") (rIsX X.K cls d a) := by
  intro pins s σ H xs us Q I r h
  obtain ⟨c, cv, D, b, e1, rfl, rfl, C, hc, e, q⟩ := h
  exact call_isE C hz hf pins s σ H xs us Q I r ⟨c, cv, b, e1, fun u ru => hc.eq ru, e, q⟩
theorem call_isXT {X : Cx} {a : Addr} {oe : Obj} {cls : Value} {d : Option Addr} {pn : List (Addr × Obj)} (hz : Zc cls d oe) (hf : ∃ vs, oe.data = .fields vs) : CallR (X.suite a ((a, oe) :: pn)) (.builtin "isinstance") (rIsXT X.K cls d a) := by
  intro pins s σ H xs us Q I r h
  obtain ⟨tp, cs, ws, D, b, rfl, hT, rfl, rfl, C, hc, e, q⟩ := h
  obtain ⟨u1, u2, rfl, r1, r2⟩ := vals2 r
  cases (show u1 = Value.ref a from r1)
  cases (show u2 = Value.ref tp from r2)
  have hget := (I.pin (a, oe) (List.mem_append_left _ List.mem_cons_self)).1
  have J : PySem.W.InstAt s.heap a oe D none := by
    obtain ⟨vs, hv⟩ := hf
    refine ⟨hget, hz.1, ?_, ?_⟩
    · unfold PySem.W.notCls; rw [hv]
    · rw [hz.2]; trivial
  have hO : ObjOk X.prog X.w H s.heap tp (.tup cs) := I.hok tp _ hT
  obtain ⟨_, its, rv, ⟨oc, od, dt, sl⟩, g1, g2, n, g3⟩ := hO
  have e4 : its = ws := ClsV.all hc rv
  subst e4
  dsimp only at g2 g3
  subst g2 g3
  exact PySem.W.kia_tup (PySem.W.handS_kitx_exc C.hg C.hk C.hs C.hd C.ha C.hn C.ht C.hm) I.kIn J g1 e (fun z => nomatch z) fun tk => ⟨.bl b, H, I.tok tk, rfl, q⟩
/-- what such a class must say, as one Bool -/
def excB (K : PySem.W.Frag) (D : Addr) : Bool :=
  decide (PySem.W.findIn K (.ref D) "__getattribute__" = some (some (.builtin "BaseException.__getattribute__"))) &&
  (decide (PySem.W.findIn K (.ref D) "__getattr__" = some none) && (decide (PySem.W.subIn K (.ref D) (.type "BaseException") = some true) &&
  (PySem.W.hasDictIn K D && (decide (PySem.W.findIn K (.ref D) "__class__" = some (some (.builtin "object.__class__"))) &&
  (decide (PySem.W.specialIn K (.builtin "object.__class__") "__get__" = some (some (.builtin "getset_descriptor.__get__"))) &&
  (decide (PySem.W.takesIn K (.builtin "object.__class__") = some true) && decide (PySem.W.mroIn K D (.type "object") = some true)))))))
theorem b2 {a b : Bool} (h : (a && b) = true) : a = true ∧ b = true := Bool.and_eq_true_iff.mp h
theorem excB_ok {K : PySem.W.Frag} {D : Addr} (h : excB K D = true) : ExcC K D := by
  obtain ⟨h1, h⟩ := b2 h
  obtain ⟨h2, h⟩ := b2 h
  obtain ⟨h3, h⟩ := b2 h
  obtain ⟨h4, h⟩ := b2 h
  obtain ⟨h5, h⟩ := b2 h
  obtain ⟨h6, h⟩ := b2 h
  obtain ⟨h7, h8⟩ := b2 h
  exact ⟨of_decide_eq_true h1, of_decide_eq_true h2, of_decide_eq_true h3, h4, of_decide_eq_true h5, of_decide_eq_true h6, of_decide_eq_true h7, of_decide_eq_true h8⟩
/-- the readings -/
def tRaise (E : XK) (C : Addr) : TS := fun _ _ H => E (.ref C) none H
def tTryAs (K : PySem.W.Frag) (c : Value) (i : Nat) (tb : WX → TS) (ts : Addr → Value → Option Addr → TS) (Wout : WX) : TS := fun D σ H => tb (wAs K c i ts Wout D) D σ H
section
variable {K : PySem.W.Frag} {σ : L2.St} {H : Hp} {Q : VK} {D : Ends} {E : XK} {C : Addr}
theorem r_raise (q : E (.ref C) none H) : tRaise E C D σ H := q
theorem r_tryAs {c : Value} {i : Nat} {tb : WX → TS} {ts : Addr → Value → Option Addr → TS} {Wout : WX} (q : tb (wAs K c i ts Wout D) D σ H) : tTryAs K c i tb ts Wout D σ H := q
theorem r_callS {sp : Sp} {W : WX} {t : TA} (q : t σ H fun vs H1 => sp vs H1 Q (WE W σ)) : tCallS sp (WE W) t σ H Q := q
/-- caught -/
theorem r_caught {nx bk ct : L2.St → Hp → Prop} {rt : VK} {cls c : Value} {d : Option Addr} {i : Nat} {ts : Addr → Value → Option Addr → TS} {Wout : WX} (h : PySem.W.exmOne K cls c = some true)
    (q : ∀ a, H a = none → ts a cls d (Ends.mk (fun σ' H' => nx (σ'.set i none) H') rt (fun σ' H' => bk (σ'.set i none) H') (fun σ' H' => ct (σ'.set i none) H')) (σ.set i (some (.ref a))) H) :
    WE (wAs K c i ts Wout (Ends.mk nx rt bk ct)) σ cls d H := ⟨true, h, fun _ => q, fun z => nomatch z⟩
theorem r_isX {a : Addr} {c : V} {cv : Value} {b : Bool} (h : ExcC K C) (hc : ClsV c cv) (e : PySem.W.kitOne K (.ref C) cv = some b) (q : Q (.bl b) H) : rIsX K (.ref C) none a [.ref a, c] H Q := ⟨c, cv, C, b, rfl, rfl, rfl, h, hc, e, q⟩
theorem r_isXT {a tp : Addr} {cs : List V} {us : List Value} {b : Bool} (ht : H tp = some (.tup cs)) (h : ExcC K C) (hc : Paired ClsV cs us) (e : PySem.W.kitAny K (.ref C) us = some b) (q : Q (.bl b) H) : rIsXT K (.ref C) none a [.ref a, .ref tp] H Q := ⟨tp, cs, us, C, b, rfl, ht, rfl, rfl, h, hc, e, q⟩
end
end Vs

/-! ## objects of own classes -/
namespace Vs
open PySem PySem.Spec PyProof.Rows L2
/-- an instance's class, asked by isinstance -/
structure InsT (K : PySem.W.Frag) (C : Addr) : Prop where
  cl : Cls K C
  ha : PySem.W.findIn K (.ref C) "__class__" = some (some (.builtin "object.__class__"))
  hn : PySem.W.specialIn K (.builtin "object.__class__") "__get__" = some (some (.builtin "getset_descriptor.__get__"))
  htk : PySem.W.takesIn K (.builtin "object.__class__") = some true
  hm : PySem.W.mroIn K C (.type "object") = some true
theorem InsT.ty {K : PySem.W.Frag} {H : Hp} {a C dx : Addr} {fs : List (Str × V)} (t : InsT K C) (e : H a = some (.ins C dx fs)) : TyX K H (.ref a) (.ref C) := .base (.ins e t.cl t.ha t.hn t.htk t.hm)
def insB (K : PySem.W.Frag) (C : Addr) : Bool :=
  decide (PySem.W.findIn K (.ref C) "__class__" = some (some (.builtin "object.__class__"))) && (decide (PySem.W.specialIn K (.builtin "object.__class__") "__get__" = some (some (.builtin "getset_descriptor.__get__"))) &&
  (decide (PySem.W.takesIn K (.builtin "object.__class__") = some true) && decide (PySem.W.mroIn K C (.type "object") = some true)))
theorem insB_ok {K : PySem.W.Frag} {C : Addr} (c : Cls K C) (h : insB K C = true) : InsT K C := by
  obtain ⟨h1, h⟩ := b2 h
  obtain ⟨h2, h⟩ := b2 h
  obtain ⟨h3, h4⟩ := b2 h
  exact ⟨c, of_decide_eq_true h1, of_decide_eq_true h2, of_decide_eq_true h3, of_decide_eq_true h4⟩
/-- a method that stands in a class above -/
def methB (K : PySem.W.Frag) (C : Addr) (m : Str) (f : Addr) : Bool := decide (PySem.W.findIn K (.ref C) m = some (some (.ref f))) && (PySem.W.isFn K (.ref f) && PySem.W.keepIn K (.ref f))
theorem methB_ok {K : PySem.W.Frag} {C f : Addr} {m : Str} (h : methB K C m f = true) : Meth K C m f := by
  obtain ⟨h1, h⟩ := b2 h
  obtain ⟨h2, h3⟩ := b2 h
  exact ⟨of_decide_eq_true h1, h2, h3⟩
/-- C() without an own __init__ -/
structure Mk0 (K : PySem.W.Frag) (C : Addr) : Prop where
  makes : PySem.W.makesIn K C = true
  init : PySem.W.findIn K (.ref C) "__init__" = some (some (.builtin "object.__init__"))
  top : PySem.W.mroIn K C (.type "object") = some true
  kp : PySem.W.keepIn K (.ref C) = true
def mk0B (K : PySem.W.Frag) (C : Addr) : Bool := PySem.W.makesIn K C && (decide (PySem.W.findIn K (.ref C) "__init__" = some (some (.builtin "object.__init__"))) && (decide (PySem.W.mroIn K C (.type "object") = some true) && PySem.W.keepIn K (.ref C)))
theorem mk0B_ok {K : PySem.W.Frag} {C : Addr} (h : mk0B K C = true) : Mk0 K C := by
  obtain ⟨h1, h⟩ := b2 h
  obtain ⟨h2, h⟩ := b2 h
  obtain ⟨h3, h4⟩ := b2 h
  exact ⟨h1, of_decide_eq_true h2, of_decide_eq_true h3, h4⟩
/-- C(..) by an __init__ that stands in a class above -/
def mkB (K : PySem.W.Frag) (C f : Addr) : Bool := PySem.W.makesIn K C && (decide (PySem.W.findIn K (.ref C) "__init__" = some (some (.ref f))) && (PySem.W.isFn K (.ref f) && PySem.W.keepIn K (.ref C)))
theorem mkB_ok {K : PySem.W.Frag} {C f : Addr} (h : mkB K C f = true) : Mk K C f := by
  obtain ⟨h1, h⟩ := b2 h
  obtain ⟨h2, h⟩ := b2 h
  obtain ⟨h3, h4⟩ := b2 h
  exact ⟨h1, of_decide_eq_true h2, h3, h4⟩
section
variable {X : Cx} {pins : List (Addr × Obj)} {σ : L2.St} {H : Hp} {s : Shared} {Q : VK} {C : Addr} {x : Str} {p pos : Pos}
theorem run_bare (M : Mk0 X.K C) (I : Inv X pins σ H s) (h : ∀ x dx, H x = none → H dx = none → dx ≠ x → Q (.ref x) (upd (upd H dx (.own x)) x (.ins C dx []))) :
    wpAny (model X.prog X.w) X.A (call (.ref C) []) (EP X pins σ Q) X.xe s := by
  have hq := h (s.heap.objs.size + 1) s.heap.objs.size (I.hok.fresh (Nat.le_succ _)) (I.hok.fresh (Nat.le_refl _)) (Nat.ne_of_lt (Nat.lt_succ_self _))
  have I2 := Inv.made (C := C) I
  obtain ⟨_, _, _, ho, _⟩ := I2.hok _ _ upd_same
  refine wpAny_call (make_map0 I.kIn M.makes M.init (fun self => .of_pure (PySem.W.oi_bind self)) ?_)
  have t2 : PySem.W.Looks (model X.prog X.w) ((s.heap.push PySem.W.emptyDict).push (PySem.W.instObj C s.heap.objs.size)) (isInstance (.ref (s.heap.objs.size + 1)) (.type "object")) true :=
    ((PySem.W.Looks.ld ho).andThen .now).andThen (PySem.W.looks_mroIn I2.kIn M.top)
  refine codeAny_call_builtin PySem.W.oi_plain PySem.W.entry_oi (@PySem.W.check_slot (model X.prog X.w) _ _ _ "object.__init__" "object" "__init__" (.ref (s.heap.objs.size + 1)) [] [] _ PySem.W.oi_kind PySem.W.oi_split t2 (PySem.W.oi_args _) ?_)
  rw [PySem.W.oi_run]
  exact wpAny_pure (And.intro rfl (show EP X pins σ Q (Value.ref (s.heap.objs.size + 1)) _ from ⟨V.ref (s.heap.objs.size + 1), _, I2, rfl, hq⟩))
/-- C(): all stands, a new instance -/
def tMake0 (C : Addr) : TE := fun _ H Q => ∀ x dx, H x = none → H dx = none → dx ≠ x → Q (.ref x) (upd (upd H dx (.own x)) x (.ins C dx []))
theorem pe_make00 (M : Mk0 X.K C) (hg : Gl X x) (hm : X.mg x = some (.ref C)) (hdb : (x == ("__debug__" : Str)) = false := by decide) : PE X (.Call (.Name x p) [] [] pos) (tMake0 C) := by
  refine ⟨fun pins s σ H Q I h => ?_⟩
  refine wpAny_Call_Name_kw (ld_glob I hg hm ?_ hdb)
  exact PySem.W.callWith_K0 I.kIn M.kp (run_bare M I h)
theorem same_made {H H' : Hp} {x dx : Addr} {C : Addr} (hx : H x = none) (hd : H dx = none) (k : Kp x (upd (upd H dx (.own x)) x (.ins C dx [])) H') : Same H H' := by
  intro b o h
  have n1 : b ≠ x := fun z => by rw [z, hx] at h; cases h
  have n2 : b ≠ dx := fun z => by rw [z, hd] at h; cases h
  exact k b o (by rw [upd_ne n1, upd_ne n2]; exact h) n1
theorem r_make0 (q : ∀ x dx H', H x = none → Same H H' → H' x = some (.ins C dx []) → Q (.ref x) H') : tMake0 C σ H Q :=
  fun x dx hx hd _ => q x dx _ hx (same_made hx hd (Kp.refl _ _)) upd_same
/-- C(..), the arguments read -/
theorem r_make {sp : Sp} {E : XK} {t : TA} (q : t σ H fun vs H1 => ∀ x dx, H1 x = none → (H1 dx = none ∧ dx ≠ x) → sp (.ref x :: vs) (upd (upd H1 dx (.own x)) x (.ins C dx [])) (fun v H2 => v = .non ∧ Q (.ref x) H2) E) : tMake C sp [] E t σ H Q := by
  unfold tMake
  simp only [List.append_nil]
  simp only [and_imp] at q
  exact q
/-- C(.., k = v), read -/
theorem r_makeK {n m : Nat} {sp : Sp} {gV : List V → List V → List V} {E : XK} {t tk : TA} (q : t σ H fun vs H1 => tk σ H1 fun zs H2 => vs.length = n ∧ zs.length = m ∧
  ∀ x dx, H2 x = none → (H2 dx = none ∧ dx ≠ x) → sp (gV (.ref x :: vs) zs) (upd (upd H2 dx (.own x)) x (.ins C dx [])) (fun v H3 => v = .non ∧ Q (.ref x) H3) E) : tMakeK C n m sp gV E t tk σ H Q := by
  unfold tMakeK
  simp only [and_imp] at q
  exact q
theorem r_len {n : Nat} {vs : List V} {P : Prop} (h : vs.length = n) (q : P) : vs.length = n ∧ P := ⟨h, q⟩
/-- o.f -/
def rFld (K : PySem.W.Frag) (f : Str) (x : V) (H : Hp) (Q : VK) : Prop := ∃ a C dx fs v, x = .ref a ∧ H a = some (.ins C dx fs) ∧ Cls K C ∧ NoAttr K C f ∧ fs.lookup f = some v ∧ Q v H
theorem r_fld {K : PySem.W.Frag} {ta : TE} {f : Str} (q : ta σ H fun y H1 => rFld K f y H1 Q) : tFld K ta f σ H Q := q
theorem r_fldI {K : PySem.W.Frag} {a dx : Addr} {fs : List (Str × V)} {f : Str} {v : V} (h : H a = some (.ins C dx fs)) (c : Cls K C) (n : NoAttr K C f) (l : fs.lookup f = some v) (q : Q v H) : rFld K f (.ref a) H Q := ⟨a, C, dx, fs, v, rfl, h, c, n, l, q⟩
/-- o.f = e -/
def rSet (K : PySem.W.Frag) (f : Str) (y x : V) (H : Hp) (P : Hp → Prop) : Prop := ∃ a C dx fs, x = .ref a ∧ H a = some (.ins C dx fs) ∧ Cls K C ∧ NoAttr K C f ∧ fs.length < 1000 ∧ P (upd H a (.ins C dx (putF f y fs)))
theorem r_sfld {K : PySem.W.Frag} {ta tv : TE} {f : Str} {D : Ends} (q : tv σ H fun y H1 => ta σ H1 fun z H2 => rSet K f y z H2 fun H3 => D.nx σ H3) : sFld K ta tv f D σ H := q
theorem r_set {K : PySem.W.Frag} {a dx : Addr} {fs gs : List (Str × V)} {f : Str} {y : V} {P : Hp → Prop} (h : H a = some (.ins C dx fs)) (c : Cls K C) (n : NoAttr K C f) (l : fs.length < 1000) (e : putF f y fs = gs) (q : P (upd H a (.ins C dx gs))) : rSet K f y (.ref a) H P := ⟨a, C, dx, fs, rfl, h, c, n, l, e ▸ q⟩
theorem putF_nil {f : Str} {v : V} : putF f v [] = [(f, v)] := rfl
theorem putF_hit {f : Str} {v x : V} {r : List (Str × V)} : putF f v ((f, x) :: r) = (f, v) :: r := if_pos rfl
theorem putF_miss {f g : Str} {v x : V} {r s : List (Str × V)} (n : g ≠ f) (e : putF f v r = s) : putF f v ((g, x) :: r) = (g, x) :: s := (if_neg n).trans (by rw [e])
/-- o.m(..) -/
def rMe (C : Addr) (m : Str) (x : V) (H : Hp) (P : Prop) : Prop := ∃ a dx fs, x = .ref a ∧ H a = some (.ins C dx fs) ∧ fs.lookup m = none ∧ P
theorem r_meth {sp : Sp} {E : XK} {ta : TE} {t : TA} {m : Str} (q : ta σ H fun y H1 => rMe C m y H1 (t σ H1 fun vs H2 => sp (y :: vs) H2 Q E)) : tMeth C m sp [] E ta t σ H Q := by
  unfold tMeth
  simp only [List.append_nil]
  exact q
theorem r_me {a dx : Addr} {fs : List (Str × V)} {m : Str} {P : Prop} (h : H a = some (.ins C dx fs)) (l : fs.lookup m = none) (p : P) : rMe C m (.ref a) H P := ⟨a, dx, fs, rfl, h, l, p⟩
theorem pe_of {e : Expr} {t u : TE} (h : PE X e t) (q : t = u) : PE X e u := q ▸ h
/-- one of several readings -/
def tAlt (t u : TE) : TE := fun σ H Q => t σ H Q ∨ u σ H Q
theorem pe_alt {e : Expr} {t u : TE} (h : PE X e t) (k : PE X e u) : PE X e (tAlt t u) := ⟨fun pins s σ H Q I h1 => h1.elim (h.run pins s σ H Q I) (k.run pins s σ H Q I)⟩
theorem r_altL {t u : TE} (q : t σ H Q) : tAlt t u σ H Q := .inl q
theorem r_altR {t u : TE} (q : u σ H Q) : tAlt t u σ H Q := .inr q
theorem r_non {P : Prop} (q : P) : V.non = .non ∧ P := ⟨rfl, q⟩
/-- isinstance against any class -/
theorem r_isiG {K : PySem.W.Frag} {v c : V} {t u : Value} {b : Bool} (ty : TyX K H v t) (hc : ClsV c u) (h : PySem.W.kitOne K t u = some b) (q : Q (.bl b) H) : rIsi K [v, c] H Q := ⟨v, c, t, u, b, rfl, hc, ty, h, q⟩
/-- C(..) in a try: what leaves goes by the names as they stand -/
theorem run_makeS {CX : CXT} {k : Nat} {fi : Addr} {fd : FuncData} {ps : List Str} {sp : Sp} {E : XK} {args : List Value} {vs : List V} (M : Mk X.K C fi) (F : FnOk X.prog X.w X.K X.mg X.base CX k fi fd ps sp)
    (room : Room (k + 1) X.A) (bnd : Binds X.K fd ps []) (out : PassesAt CX X σ E) (I : Inv X pins σ H s) (rel : Vals vs args)
    (h : ∀ a b, H a = none → (H b = none ∧ b ≠ a) → sp (.ref a :: vs) (upd (upd H b (.own a)) a (.ins C b [])) (fun v H2 => v = .non ∧ Q (.ref a) H2) E) : wpAny (model X.prog X.w) X.A (call (.ref C) args) (EP X pins σ Q) X.xe s := by
  have body := h _ _ (I.hok.fresh (a := s.heap.objs.size + 1) (Nat.le_succ _)) ⟨I.hok.fresh (a := s.heap.objs.size) (Nat.le_refl _), Nat.ne_of_lt (Nat.lt_succ_self _)⟩
  have J := Inv.made (C := C) I
  have rel' : Vals (V.ref (s.heap.objs.size + 1) :: vs) (Value.ref (s.heap.objs.size + 1) :: args) := .cons rfl rel
  have n1 : ((Value.ref (s.heap.objs.size + 1) :: args) ++ []).length = ps.length := by
    rw [List.append_nil, ← rel'.length]
    exact F.len _ _ _ _ body
  have bt := bnd _ (Value.ref (s.heap.objs.size + 1) :: args) J.kIn n1
  rw [List.append_nil] at bt
  have run := F.run _ X.stack _ _ _ _ _ _ E (room.make C args []) (J.env0.make C args []) bt rel' body
  refine wpAny_call (make_map (f := fi) I.kIn M.makes M.init (beq_iff_eq.mp M.fn) (codeAny_mono run ?_))
  intro res st post
  match res, post with
  | .error e, post => exact out pins _ _ e st J post
  | .ok (.ret u), post =>
    obtain ⟨v, H2, I2, ru, ev, q⟩ := J.after post
    subst ev
    exact And.intro ru (show EP X pins σ Q (Value.ref (s.heap.objs.size + 1)) _ from ⟨V.ref (s.heap.objs.size + 1), H2, I2, rfl, q⟩)
  | .ok .next, post => exact post.elim
  | .ok .brk, post => exact post.elim
  | .ok .cont, post => exact post.elim
/-- its reading: as tMake, the names' own way out -/
def tMakeS (C : Addr) (sp : Sp) (E : L2.St → XK) (t : TA) : TE := fun σ H Q => t σ H fun vs H1 => ∀ a b, H1 a = none → (H1 b = none ∧ b ≠ a) →
  sp (.ref a :: vs) (upd (upd H1 b (.own a)) a (.ins C b [])) (fun v H2 => v = .non ∧ Q (.ref a) H2) (E σ)
theorem pe_makeS {CX : CXT} {k : Nat} {fi : Addr} {fd : FuncData} {ps : List Str} {sp : Sp} {E : L2.St → XK} {e : Expr} {es : List Expr} {t : TA} (M : Mk X.K C fi) (F : FnOk X.prog X.w X.K X.mg X.base CX k fi fd ps sp)
    (room : Room (k + 1) X.A) (hg : Gl X x) (hm : X.mg x = some (.ref C)) (bnd : Binds X.K fd ps []) (out : ∀ σ, PassesAt CX X σ (E σ)) (ha : PA X (e :: es) t) (hdb : (x == ("__debug__" : Str)) = false := by decide)
    (he : starEach (e :: es) X.env = (false, eval e X.env) :: starEach es X.env := by rfl) (hpl : (backTo pos (starEach es X.env)).any (·.1) = false := by rfl) :
    PE X (.Call (.Name x p) (e :: es) [] pos) (tMakeS C sp E t) := by
  constructor
  intro pins s σ H Q I h
  refine wpAny_Call_Name_kw (ld_glob I hg hm ?_ hdb)
  have args := ha.run pos pins s σ H _ I h
  refine PySem.W.callWith_K (h₀ := X.base) I.ok.mod.kin M.kp (thn args ?_) he hpl
  rintro us s1 ⟨vs, H1, I1, r, q⟩
  exact ⟨I1.kIn, run_makeS M F room bnd (out σ) I1 r q⟩
theorem r_makeS {sp : Sp} {W : WX} {t : TA} (q : t σ H fun vs H1 => ∀ a b, H1 a = none → (H1 b = none ∧ b ≠ a) → sp (.ref a :: vs) (upd (upd H1 b (.own a)) a (.ins C b [])) (fun v H2 => v = .non ∧ Q (.ref a) H2) (WE W σ)) : tMakeS C sp (WE W) t σ H Q := q
/-- a comprehension that keeps none -/
theorem r_lcN {K : PySem.W.Frag} {tt : TT} {te : TE} {ws : List Nat} {j : Nat} {p : Addr} {xs : List V} (hx : SqL K H p xs) (hw : ∀ x, wipe ((wipe σ ws).set j (some x)) ws = wipe σ ws)
    (he : ∀ (x : V) (H1 : Hp) (B : Bool → Hp → Prop), x ∈ xs → Same H H1 → (∀ H2, Same H1 H2 → B false H2) → tt ((wipe σ ws).set j (some x)) H1 B)
    (q : ∀ D H1, H D = none → Same H H1 → H1 D = some (.lst []) → Q (.ref D) H1) :
    ∃ a, V.ref p = .ref a ∧ (∃ xs, SqL K H a xs) ∧ LcW (Itl K a) (gName j) tt te ws σ H Q := by
  refine ⟨p, rfl, ⟨xs, hx⟩, fun D hD => lc_list (K := K) (a := p) (xs := xs) (fun i H' => Same H H' ∧ H' D = some (.lst [])) ⟨Same.new (Same.refl H) hD, upd_same⟩ (fun i H' _ e => Same.seq e.1 hx) (fun i x H' hi e => ?_) (fun H' e => q D H' hD e.1 e.2)⟩
  refine ⟨hw x, ?_⟩
  show tt _ _ _
  refine he x H' _ (List.mem_of_getElem? hi) e.1 (fun H2 s2 => ?_)
  rw [if_neg (fun z => by cases z)]
  exact ⟨Same.trans e.1 s2, s2 _ _ e.2⟩
end
end Vs

/-! ## texts -/
namespace Vs
open PySem PySem.Spec PyProof.Rows L2
/-- a sign in a text -/
def rInC : R2 := fun x y H Q => ∃ (c : Nat) (z : Str), x = .str ⟨#[c]⟩ ∧ y = .str z ∧ Q (.bl (decide (c ∈ z.cps.toList))) H
section
variable {K : PySem.W.Frag} {σ : L2.St} {H : Hp} {Q : VK} {te : TE} {ws : List Nat}
theorem r_iStr {R : It → Hp → Prop} (q : te σ H fun v H1 => ∃ x, v = .str x ∧ R (Its x) H1) : iStr te σ H R := q
/-- a comprehension over a text, no test, nothing laid -/
theorem r_lcS {j : Nat} {z : Str} (f : Nat → V) (hz : z.cps.size ≤ 100000) (hw : ∀ x, wipe ((wipe σ ws).set j (some x)) ws = wipe σ ws)
    (he : ∀ (c : Nat) (D : Addr) (acc : List V) (Q' : VK), c ∈ z.cps.toList → H D = none → Q' (f c) (upd H D (.lst acc)) → te ((wipe σ ws).set j (some (.str ⟨#[c]⟩))) (upd H D (.lst acc)) Q')
    (q : ∀ D, H D = none → Q (.ref D) (upd H D (.lst (z.cps.toList.map f)))) :
    ∃ x, V.str z = .str x ∧ LcW (Its x) (gName j) tYes te ws σ H Q := by
  refine ⟨z, rfl, fun D hD => ⟨fun i m H' => m = z.cps.size - i ∧ i ≤ z.cps.size ∧ H' = upd H D (.lst ((z.cps.toList.take i).map f)), ⟨z.cps.size, by simp, Nat.zero_le _, by simp⟩, ?_⟩⟩
  rintro i m H' ⟨rfl, hi, rfl⟩
  by_cases hlt : i < z.cps.size
  · refine .inr ⟨hlt, fun H2 => H2 = upd H D (.lst ((z.cps.toList.take (i + 1)).map f)), fun H2 e => ⟨z.cps.size - (i + 1), by omega, rfl, hlt, e⟩, fun x H2 y => ?_⟩
    obtain ⟨rfl, c, hc, rfl⟩ := y
    refine ⟨hw _, ?_⟩
    show te _ _ _
    have hc2 : z.cps.toList[i]? = some c := by rw [← hc]; simp
    refine he c D _ _ (List.mem_of_getElem? hc2) hD ⟨_, upd_same, ?_, ?_⟩
    · rw [List.length_map, List.length_take]
      have h2 : (100000 : Nat) < sizeLine := by rw [sizeLine_eq]; decide
      omega
    · rw [upd2]
      congr 2
      rw [List.take_add_one, hc2, List.map_append]
      rfl
  · refine .inl ⟨?_, ?_⟩
    · show z.cps.size ≤ i
      omega
    · have e : z.cps.toList.take i = z.cps.toList := List.take_of_length_le (by simp; omega)
      rw [e]
      exact q D hD
theorem r_inC {c : Nat} {z : Str} (q : Q (.bl (decide (c ∈ z.cps.toList))) H) : rInC (.str ⟨#[c]⟩) (.str z) H Q := ⟨c, z, rfl, rfl, q⟩
/-- a text some times over -/
def rTimS : R2 := fun x y H Q => ∃ (z : Str) (n : Int), x = .str z ∧ y = .int n ∧ MulOk z n ∧ Q (.str (Txt.mul z n)) H
theorem op_timS {X : Cx} : OpR X (binaryOp .Mult) rTimS := by
  intro pins s σ H x y v u Q I rx ry h
  obtain ⟨z, n, rfl, rfl, ok, q⟩ := h
  obtain ⟨t, rfl⟩ := rx
  obtain ⟨t', rfl⟩ := ry
  exact SB.mul ok fun t2 k => ⟨.str (Txt.mul z n), H, I.tok _, ⟨_, rfl⟩, q⟩
theorem r_timS {z : Str} {n : Int} (ok : MulOk z n) (q : Q (.str (Txt.mul z n)) H) : rTimS (.str z) (.int n) H Q := ⟨z, n, rfl, rfl, ok, q⟩
/-- two texts behind each other; a part of a text -/
def rCatS : R2 := fun x y H Q => ∃ i j, x = .str i ∧ y = .str j ∧ i.length + j.length ≤ sizeLine ∧ Q (.str (i ++ j)) H
theorem r_catS {i j : Str} (h : i.length + j.length ≤ sizeLine) (q : Q (.str (i ++ j)) H) : rCatS (.str i) (.str j) H Q := ⟨i, j, rfl, rfl, h, q⟩
theorem op_catS {X : Cx} : OpR X (binaryOp .Add) rCatS := op_add_str
theorem r_slS {z : Str} {lo hi : Option Int} (h : z.length ≤ sizeLine) (q : Q (.str (cutS z lo hi)) H) : rSlS (.str z) lo hi H Q := ⟨z, rfl, h, q⟩
end
end Vs

/-! ## comprehensions whose elements change the heap; more of texts -/
namespace Vs
open PySem PySem.Spec PyProof.Rows L2
section
variable {K : PySem.W.Frag} {σ : L2.St} {H : Hp} {Q : VK} {te : TE} {ws : List Nat}
theorem lc_any {J : It} {n : Nat} {G : Hp → Prop} {Y : Nat → Hp → V → Hp → Prop} (w : Walk J n G Y) (hn : n ≤ 100000) {j : Nat} (Pv : Addr → Nat → List V → Hp → Prop)
    (hw : ∀ x, wipe ((wipe σ ws).set j (some x)) ws = wipe σ ws) (hY : ∀ i H x H', Y i H x H' → H' = H)
    (h0 : ∀ D, H D = none → Pv D 0 [] (upd H D (.lst [])))
    (hG : ∀ D i acc H', Pv D i acc H' → G H')
    (hs : ∀ (D : Addr) (i : Nat) (x : V) (acc : List V) (H' : Hp) (Q' : VK), H D = none → i < n → Y i H' x H' → H' D = some (.lst acc) → Pv D i acc H' → (∀ y H4, H4 D = some (.lst acc) → Pv D (i + 1) (acc ++ [y]) (upd H4 D (.lst (acc ++ [y]))) → Q' y H4) → te ((wipe σ ws).set j (some x)) H' Q')
    (hd : ∀ D acc H', H D = none → H' D = some (.lst acc) → acc.length = n → Pv D n acc H' → Q (.ref D) H') : LcW J (gName j) tYes te ws σ H Q := by
  intro D hD
  refine lc_it w (fun i H' => ∃ acc, H' D = some (.lst acc) ∧ acc.length = i ∧ Pv D i acc H') ⟨[], upd_same, rfl, h0 D hD⟩ (fun i H' _ ⟨acc, _, _, p⟩ => hG D i acc H' p) (fun i x H1 H' hi ⟨acc, ha, hl, p⟩ y => ?_) (fun H' ⟨acc, ha, hl, p⟩ => hd D acc H' hD ha hl p)
  have e := hY _ _ _ _ y
  subst e
  refine ⟨hw x, ?_⟩
  show te _ _ _
  refine hs D i x acc _ _ hD hi y ha p (fun y H4 h4 p4 => ⟨acc, h4, ?_, acc ++ [y], upd_same, by simp [hl], p4⟩)
  have h2 : (100000 : Nat) < sizeLine := by rw [sizeLine_eq]; decide
  omega
theorem r_lcR1 {j : Nat} {k : Int} (Pv : Addr → Nat → List V → Hp → Prop) (b : k ≤ 100000) (b0 : 0 ≤ k)
    (hw : ∀ x, wipe ((wipe σ ws).set j (some x)) ws = wipe σ ws)
    (h0 : ∀ D, H D = none → Pv D 0 [] (upd H D (.lst [])))
    (hs : ∀ (D : Addr) (i : Nat) (acc : List V) (H' : Hp) (Q' : VK), H D = none → i < k.toNat → H' D = some (.lst acc) → Pv D i acc H' → (∀ y H4, H4 D = some (.lst acc) → Pv D (i + 1) (acc ++ [y]) (upd H4 D (.lst (acc ++ [y]))) → Q' y H4) → te ((wipe σ ws).set j (some (.int (i : Int)))) H' Q')
    (hd : ∀ D acc H', H D = none → H' D = some (.lst acc) → acc.length = k.toNat → Pv D k.toNat acc H' → Q (.ref D) H') :
    ∃ k2 : Int, [V.int k] = [.int k2] ∧ -(2 ^ 62) ≤ k2 ∧ k2 < 2 ^ 62 ∧ LcW (Itr 0 k2.toNat) (gName j) tYes te ws σ H Q :=
  ⟨k, rfl, by omega, by omega, lc_any walk_range (by omega) Pv hw (fun _ _ _ _ y => y.1) h0 (fun _ _ _ _ _ => trivial)
    (fun D i x acc H' Q' hD hi y ha p hq => by
      have e : x = .int (i : Int) := y.2.trans (congrArg V.int (Int.zero_add _))
      rw [e]; exact hs D i acc H' Q' hD hi ha p hq) hd⟩
theorem r_lcL {j : Nat} {p : Addr} {xs : List V} (Pv : Addr → Nat → List V → Hp → Prop) (hx : SqL K H p xs) (hz : xs.length ≤ 100000)
    (hw : ∀ x, wipe ((wipe σ ws).set j (some x)) ws = wipe σ ws)
    (h0 : ∀ D, H D = none → Pv D 0 [] (upd H D (.lst [])))
    (hG : ∀ D i acc H', Pv D i acc H' → SqL K H' p xs)
    (hs : ∀ (D : Addr) (i : Nat) (x : V) (acc : List V) (H' : Hp) (Q' : VK), H D = none → xs[i]? = some x → H' D = some (.lst acc) → Pv D i acc H' → (∀ y H4, H4 D = some (.lst acc) → Pv D (i + 1) (acc ++ [y]) (upd H4 D (.lst (acc ++ [y]))) → Q' y H4) → te ((wipe σ ws).set j (some x)) H' Q')
    (hd : ∀ D acc H', H D = none → H' D = some (.lst acc) → acc.length = xs.length → Pv D xs.length acc H' → Q (.ref D) H') :
    ∃ a, V.ref p = .ref a ∧ (∃ xs, SqL K H a xs) ∧ LcW (Itl K a) (gName j) tYes te ws σ H Q :=
  ⟨p, rfl, ⟨xs, hx⟩, lc_any walk_list hz Pv hw (fun _ _ _ _ y => y.1) h0 hG (fun D i x acc H' Q' hD hi y ha p hq => hs D i x acc H' Q' hD y.2 ha p hq) hd⟩
theorem r_lcT {j : Nat} {p : Addr} {xs : List V} (Pv : Addr → Nat → List V → Hp → Prop) (hx : SqT K H p xs) (hz : xs.length ≤ 100000)
    (hw : ∀ x, wipe ((wipe σ ws).set j (some x)) ws = wipe σ ws)
    (h0 : ∀ D, H D = none → Pv D 0 [] (upd H D (.lst [])))
    (hG : ∀ D i acc H', Pv D i acc H' → SqT K H' p xs)
    (hs : ∀ (D : Addr) (i : Nat) (x : V) (acc : List V) (H' : Hp) (Q' : VK), H D = none → xs[i]? = some x → H' D = some (.lst acc) → Pv D i acc H' → (∀ y H4, H4 D = some (.lst acc) → Pv D (i + 1) (acc ++ [y]) (upd H4 D (.lst (acc ++ [y]))) → Q' y H4) → te ((wipe σ ws).set j (some x)) H' Q')
    (hd : ∀ D acc H', H D = none → H' D = some (.lst acc) → acc.length = xs.length → Pv D xs.length acc H' → Q (.ref D) H') :
    ∃ a, V.ref p = .ref a ∧ (∃ xs, SqT K H a xs) ∧ LcW (Itt K a) (gName j) tYes te ws σ H Q :=
  ⟨p, rfl, ⟨xs, hx⟩, lc_any walk_tup hz Pv hw (fun _ _ _ _ y => y.1) h0 hG (fun D i x acc H' Q' hD hi y ha p hq => hs D i x acc H' Q' hD y.2 ha p hq) hd⟩
theorem lc_anyT {tt : TT} {J : It} {n : Nat} {G : Hp → Prop} {Y : Nat → Hp → V → Hp → Prop} (w : Walk J n G Y) (hn : n ≤ 100000) {j : Nat} (Pv : Addr → Nat → List V → Hp → Prop)
    (hw : ∀ x, wipe ((wipe σ ws).set j (some x)) ws = wipe σ ws) (hY : ∀ i H x H', Y i H x H' → H' = H)
    (h0 : ∀ D, H D = none → Pv D 0 [] (upd H D (.lst [])))
    (hG : ∀ D i acc H', Pv D i acc H' → G H')
    (hs : ∀ (D : Addr) (i : Nat) (x : V) (acc : List V) (H' : Hp) (B : Bool → Hp → Prop), H D = none → i < n → Y i H' x H' → H' D = some (.lst acc) → Pv D i acc H' → (∀ H3, H3 D = some (.lst acc) → Pv D (i + 1) acc H3 → B false H3) →
      (∀ H3, te ((wipe σ ws).set j (some x)) H3 (fun y H4 => H4 D = some (.lst acc) ∧ Pv D (i + 1) (acc ++ [y]) (upd H4 D (.lst (acc ++ [y])))) → B true H3) → tt ((wipe σ ws).set j (some x)) H' B)
    (hd : ∀ D acc H', H D = none → H' D = some (.lst acc) → Pv D n acc H' → Q (.ref D) H')
    (hm : ∀ {σ' H' A B}, (∀ y H4, A y H4 → B y H4) → te σ' H' A → te σ' H' B) : LcW J (gName j) tt te ws σ H Q := by
  intro D hD
  refine lc_it w (fun i H' => ∃ acc, H' D = some (.lst acc) ∧ acc.length ≤ i ∧ Pv D i acc H') ⟨[], upd_same, Nat.le_refl _, h0 D hD⟩ (fun i H' _ ⟨acc, _, _, p⟩ => hG D i acc H' p) (fun i x H1 H' hi ⟨acc, ha, hl, p⟩ y => ?_) (fun H' ⟨acc, ha, hl, p⟩ => hd D acc H' hD ha p)
  have e := hY _ _ _ _ y
  subst e
  refine ⟨hw x, ?_⟩
  show tt _ _ _
  refine hs D i x acc _ _ hD hi y ha p (fun H3 h3 p3 => ?_) (fun H3 ht => ?_)
  · rw [if_neg (fun z => by cases z)]
    exact ⟨acc, h3, by omega, p3⟩
  · rw [if_pos rfl]
    refine hm (fun y H4 hh => ⟨acc, hh.1, ?_, acc ++ [y], upd_same, by simp; omega, hh.2⟩) ht
    have h2 : (100000 : Nat) < sizeLine := by rw [sizeLine_eq]; decide
    omega
theorem mono_var {k : Nat} : ∀ {σ' : L2.St} {H' : Hp} {A B : VK}, (∀ y H4, A y H4 → B y H4) → tVar k σ' H' A → tVar k σ' H' B := fun h ⟨v, e, q⟩ => ⟨v, e, h _ _ q⟩
/-- over a list, with a test; the element is a name -/
theorem r_lcLT {tt : TT} {j k : Nat} {p : Addr} {xs : List V} (Pv : Addr → Nat → List V → Hp → Prop) (hx : SqL K H p xs) (hz : xs.length ≤ 100000)
    (hw : ∀ x, wipe ((wipe σ ws).set j (some x)) ws = wipe σ ws)
    (h0 : ∀ D, H D = none → Pv D 0 [] (upd H D (.lst [])))
    (hG : ∀ D i acc H', Pv D i acc H' → SqL K H' p xs)
    (hs : ∀ (D : Addr) (i : Nat) (x : V) (acc : List V) (H' : Hp) (B : Bool → Hp → Prop), H D = none → xs[i]? = some x → H' D = some (.lst acc) → Pv D i acc H' → (∀ H3, H3 D = some (.lst acc) → Pv D (i + 1) acc H3 → B false H3) →
      (∀ H3, tVar k ((wipe σ ws).set j (some x)) H3 (fun y H4 => H4 D = some (.lst acc) ∧ Pv D (i + 1) (acc ++ [y]) (upd H4 D (.lst (acc ++ [y])))) → B true H3) → tt ((wipe σ ws).set j (some x)) H' B)
    (hd : ∀ D acc H', H D = none → H' D = some (.lst acc) → Pv D xs.length acc H' → Q (.ref D) H') :
    ∃ a, V.ref p = .ref a ∧ (∃ xs, SqL K H a xs) ∧ LcW (Itl K a) (gName j) tt (tVar k) ws σ H Q :=
  ⟨p, rfl, ⟨xs, hx⟩, lc_anyT walk_list hz Pv hw (fun _ _ _ _ y => y.1) h0 hG (fun D i x acc H' B hD hi y ha p h1 h2 => hs D i x acc H' B hD y.2 ha p h1 h2) hd mono_var⟩
/-- over range(k), the element is told by the number alone -/
theorem r_lcRP {j : Nat} {k : Int} (f : Nat → V) (b : k ≤ 100000) (b0 : 0 ≤ k) (hw : ∀ x, wipe ((wipe σ ws).set j (some x)) ws = wipe σ ws)
    (hs : ∀ (i : Nat) (H' : Hp) (Q' : VK), i < k.toNat → Q' (f i) H' → te ((wipe σ ws).set j (some (.int (i : Int)))) H' Q')
    (q : ∀ D, H D = none → Q (.ref D) (upd H D (.lst ((List.range k.toNat).map f)))) :
    ∃ k2 : Int, [V.int k] = [.int k2] ∧ -(2 ^ 62) ≤ k2 ∧ k2 < 2 ^ 62 ∧ LcW (Itr 0 k2.toNat) (gName j) tYes te ws σ H Q :=
  r_lcR1 (fun D i acc H' => acc = (List.range i).map f ∧ H' = upd H D (.lst acc)) b b0 hw (fun D _ => ⟨rfl, rfl⟩)
    (fun D i acc H' Q' _ hi _ p hq => hs i H' Q' hi (hq _ _ (by rw [p.2]; exact upd_same) ⟨by rw [p.1, List.range_succ, List.map_append]; rfl, by rw [p.2, upd2]⟩))
    (fun D acc H' hD _ _ p => by rw [p.2, p.1]; exact q D hD)
/-! texts -/
def rUpper : V → List V → Hp → VK → Prop := fun x xs H Q => ∃ a, x = .str a ∧ xs = [] ∧ a.length ≤ 5592405 ∧ Q (.str (Txt.upper a)) H
def rJoin (K : PySem.W.Frag) : V → List V → Hp → VK → Prop := fun x xs H Q => ∃ a p, ∃ ys : List Str, x = .str a ∧ xs = [.ref p] ∧ (SqL K H p (ys.map V.str) ∨ SqT K H p (ys.map V.str)) ∧ (ys.map (·.length)).sum + ys.length * a.length ≤ 16777216 ∧ Q (.str (Txt.join a ys)) H
def rStrI : List V → Hp → VK → Prop := fun xs H Q => ∃ i, xs = [.int i] ∧ i.natAbs.log2 < 1920 ∧ Q (.str (Str.ofString (toString i))) H
theorem r_m0 {r : V → List V → Hp → VK → Prop} (q : te σ H fun x H1 => (∃ a, x = .str a) ∧ r x [] H1 Q) : tM0 r te σ H Q := q
theorem r_m1 {tb : TE} {r : V → List V → Hp → VK → Prop} (q : te σ H fun x H1 => (∃ a, x = .str a) ∧ tb σ H1 fun y H2 => r x [y] H2 Q) : tM1 r te tb σ H Q := q
theorem r_exS {z : Str} {P : Prop} (q : P) : (∃ a, V.str z = .str a) ∧ P := ⟨⟨z, rfl⟩, q⟩
theorem r_upper {z : Str} (h : z.length ≤ 100000) (q : Q (.str (Txt.upper z)) H) : rUpper (.str z) [] H Q := ⟨z, rfl, rfl, by omega, q⟩
theorem r_join {z : Str} {p : Addr} {ys : List Str} (h : SqL K H p (ys.map V.str)) (l : (ys.map (·.length)).sum + ys.length * z.length ≤ 16777216) (q : Q (.str (Txt.join z ys)) H) : rJoin K (.str z) [.ref p] H Q := ⟨z, p, ys, rfl, rfl, .inl h, l, q⟩
theorem r_strI {i : Int} (h : i.natAbs.log2 < 1920) (q : Q (.str (Str.ofString (toString i))) H) : rStrI [.int i] H Q := ⟨i, rfl, h, q⟩
theorem log2_small {i : Int} (h0 : -1000000000000000000 ≤ i) (h1 : i ≤ 1000000000000000000) : i.natAbs.log2 < 1920 := by
  have h : i.natAbs ≤ 1000000000000000000 := by omega
  have h2 : i.natAbs < 2 ^ 1920 := Nat.lt_of_le_of_lt h (by decide)
  by_cases z : i.natAbs = 0
  · rw [z]; decide
  · exact (Nat.log2_lt z).mpr h2
end
theorem glued_go {sep : Str} : ∀ (ys : List Str) (acc : Array Nat), (List.foldl (fun acc p => acc ++ sep.cps ++ p.cps) acc ys).toList = acc.toList ++ (ys.map fun y => sep.cps.toList ++ y.cps.toList).flatten
  | [], acc => by simp
  | y :: ys, acc => by
    rw [List.foldl_cons, glued_go ys]
    simp
theorem join_l {sep : Str} {y : Str} {ys : List Str} : (Txt.join sep (y :: ys)).cps.toList = y.cps.toList ++ (ys.map fun y => sep.cps.toList ++ y.cps.toList).flatten := by
  exact glued_go _ _
theorem join0 {sep : Str} : (Txt.join sep []).cps.toList = [] := rfl
/-- joined by nothing -/
theorem join_e {ys : List Str} : (Txt.join "" ys).cps.toList = (ys.map fun y => y.cps.toList).flatten := by
  cases ys with
  | nil => rfl
  | cons y ys =>
    rw [join_l, List.map_cons, List.flatten_cons]
    rfl
theorem mul_l {z : Str} {n : Int} (h : 1 ≤ n) : (Txt.mul z n).cps.toList.length = z.cps.toList.length * n.toNat := by
  unfold Txt.mul
  rw [if_neg (by omega)]
  split
  · rename_i hh
    simp only [Bool.or_eq_true, beq_iff_eq] at hh
    rcases hh with rfl | hz
    · simp
    · have : z.cps.toList.length = 0 := by rw [Array.length_toList]; exact hz
      rw [this]; simp
  · have go : ∀ (m : Nat) (acc : Array Nat), (List.foldl (fun x1 x2 => x1 ++ x2) acc (List.replicate m z.cps)).toList.length = acc.toList.length + z.cps.toList.length * m := by
      intro m
      induction m with
      | zero => intro acc; simp
      | succ m ih =>
        intro acc
        rw [List.replicate_succ, List.foldl_cons, ih]
        simp only [Array.length_toList, Array.size_append]
        rw [Nat.mul_succ]; omega
    rw [go]
    simp
theorem upper_l {z : Str} : (Txt.upper z).cps.toList = (z.cps.toList.map Unicode.upperOf).flatten := by
  unfold Txt.upper placed
  simp only [Array.toList_flatten, Array.toList_mapIdx]
  congr 1
  apply List.ext_getElem
  · simp
  · intro i h1 h2
    simp
theorem mulOk_small {z : Str} {n : Int} (h0 : 0 ≤ n) (h1 : n ≤ 1000) (hz : z.length ≤ 1000) : MulOk z n := by
  refine ⟨?_, fun a b => ?_, fun a b => ?_⟩
  · rw [decide_eq_false (by omega), decide_eq_false (by omega)]; rfl
  · have : (1000 : Int) ≤ (2 ^ 63 - 1) / n := by
      rw [Int.le_ediv_iff_mul_le (by omega)]
      have : 1000 * n ≤ 1000 * 1000 := Int.mul_le_mul_of_nonneg_left h1 (by decide)
      omega
    omega
  · unfold Builtin.Str.tooLong
    have : z.length * n.toNat ≤ 1000 * 1000 := Nat.mul_le_mul hz (by omega)
    rw [sizeLine_eq]
    exact decide_eq_false (by omega)
end Vs

/-! ## own exceptions with an own __init__ -/
namespace Vs
open PySem PySem.Spec PyProof.Rows L2
/-- what the written part says of such a class -/
def oexB (K : PySem.W.Frag) (C f : Addr) : Bool :=
  (match K.lookup C with
    | some ⟨.type "type", _, .cls cd, sl⟩ => (match cd.mro, sl.toList with
      | .ref C' :: bm, [_, _, _, _, some (.builtin n), _] => C' == C && n == "ValueError.__new__" && !cd.hasDel && cd.hasDict && PySem.HandSPX.refsVE bm
      | _, _ => false)
    | _ => false) && (decide (PySem.W.findIn K (.ref C) "__setattr__" = some (some (.builtin "object.__setattr__"))) && (decide (PySem.W.subIn K (.ref C) (.type "BaseException") = some true) &&
  (decide (PySem.W.typeIn K (.ref C) = some (.type "type")) && (PySem.W.keepIn K (.ref C) && (decide (PySem.W.findIn K (.ref C) "__init__" = some (some (.ref f))) && decide (PySem.W.typeIn K (.ref f) = some (.type "function")))))))
structure OexD (K : PySem.W.Frag) (C f : Addr) : Prop where
  c : OexC K C
  i : PySem.W.findIn K (.ref C) "__init__" = some (some (.ref f))
  t : PySem.W.typeIn K (.ref f) = some (.type "function")
theorem oexB_ok {K : PySem.W.Frag} {C f : Addr} (h : oexB K C f = true) : OexD K C f := by
  obtain ⟨q, h⟩ := b2 h
  obtain ⟨h2, h⟩ := b2 h
  obtain ⟨h3, h⟩ := b2 h
  obtain ⟨h4, h⟩ := b2 h
  obtain ⟨h5, h⟩ := b2 h
  obtain ⟨h6, h7⟩ := b2 h
  refine ⟨⟨?_, of_decide_eq_true h2, of_decide_eq_true h3, of_decide_eq_true h4, h5⟩, of_decide_eq_true h6, of_decide_eq_true h7⟩
  split at q
  · rename_i dd cd sl ho
    split at q
    · rename_i C' bm k0 k1 k2 k3 n k5 hm hs
      simp only [Bool.and_eq_true, beq_iff_eq, Bool.not_eq_true'] at q
      obtain ⟨⟨⟨⟨rfl, rfl⟩, hdel⟩, hdct⟩, ht⟩ := q
      obtain ⟨nm, bs, mro, ns, qn, hd, sn, sub, ab, col, del⟩ := cd
      dsimp only at hm hdel hdct
      subst hm hdel hdct
      have hsl : sl = #[k0, k1, k2, k3, some (.builtin "ValueError.__new__"), k5] := by
        obtain ⟨l⟩ := sl
        simp only at hs
        rw [hs]
      subst hsl
      exact ⟨nm, qn, ns, bs, bm, sn, sub, ab, col, dd, k0, k1, k2, k3, k5, ho, ht⟩
    · cases q
  · cases q
/-- a class's own way to ValueError.__init__ -/
def beB (K : PySem.W.Frag) (B : Addr) : Bool := decide (PySem.W.specialIn K (.ref B) "__getattribute__" = some (some (.builtin "type.__getattribute__"))) && (decide (PySem.W.typeIn K (.ref B) = some (.type "type")) &&
  (PySem.W.readsIn K B (.type "type") && (match PySem.W.findCls K (.ref B) (.type "type") "__init__" with | some (.val (.builtin n)) => n == "ValueError.__init__" | _ => false)))
structure BeC (K : PySem.W.Frag) (B : Addr) : Prop where
  g : PySem.W.specialIn K (.ref B) "__getattribute__" = some (some (.builtin "type.__getattribute__"))
  t : PySem.W.typeIn K (.ref B) = some (.type "type")
  r : PySem.W.readsIn K B (.type "type") = true
  v : PySem.W.findCls K (.ref B) (.type "type") "__init__" = some (.val (.builtin "ValueError.__init__"))
theorem beB_ok {K : PySem.W.Frag} {B : Addr} (h : beB K B = true) : BeC K B := by
  obtain ⟨h1, h⟩ := b2 h
  obtain ⟨h2, h⟩ := b2 h
  obtain ⟨h3, h4⟩ := b2 h
  refine ⟨of_decide_eq_true h1, of_decide_eq_true h2, h3, ?_⟩
  split at h4
  · rename_i n e
    have := beq_iff_eq.mp h4
    subst this
    exact e
  · cases h4
section
variable {X : Cx} {e : Expr} {es : List Expr} {ta : TA} {p p1 p2 pos : Pos}
/-- B.__init__(self, ..), B an own class over ValueError -/
theorem pe_beinit {pl : Sem Bool} {x : Str} {B : Addr} (T : BeC X.K B) (hg : Gl X x) (hm : X.mg x = some (.ref B)) (ha : PA X (e :: es) ta) (hdb : (x == ("__debug__" : Str)) = false := by decide)
    (hc : eval (.Call (.Attribute (.Name x p1) "__init__" p2) (e :: es) [] pos) X.env = (do
      let ov ← eval (.Name x p1) X.env
      standAt p2.atName
      let (f, first) ← holding [ov] (getMethod ov "__init__" pl)
      callWith pos f first (backTo pos (starEach (e :: es) X.env)) (backToKw pos (keywordEach [] X.env))) := by rfl)
    (he : starEach (e :: es) X.env = (false, eval e X.env) :: starEach es X.env := by rfl) (hpl : (backTo pos (starEach es X.env)).any (·.1) = false := by rfl) :
    PE X (.Call (.Attribute (.Name x p1) "__init__" p2) (e :: es) [] pos) (tVeI X.K ta) := by
  refine ⟨fun pins s σ H Q I h => ?_⟩
  refine PySem.W.methodCall_KW (ld_glob I hg hm ?_ hdb) hc
  obtain ⟨m, fr⟩ := I.fr
  refine PySem.W.method_of_cls fr I.ok.mod.kin T.g (PySem.W.cls_val fr I.ok.mod.kin T.t T.r T.v (by decide +kernel) ?_)
  show wpAny _ _ (callWith pos (Value.builtin "ValueError.__init__") [] (backTo pos (starEach (e :: es) X.env)) []) _ _ _
  refine PyProof.Rows.callWith_method1 (thn (ha.run pos pins _ σ H _ (I.tok _) h) fun us s1 ⟨vs, H1, I1, r1, a, C, ws, ev, hl, T, ea, q⟩ => ?_) he hpl
  subst ev
  cases r1 with
  | @cons _ u0 _ ur ra rw' =>
    obtain rfl : u0 = Value.ref a := ra
    have hlen : ur.length ≤ sizeLine := by
      rw [← Paired.length rw', sizeLine_eq]
      omega
    exact oinit_ok T I1 ea hlen fun s' J => ⟨.non, H1, J, rfl, q⟩
end
/-- raise C(..): the reading -/
def tRaiseO (E : XK) (C : Addr) (sp : Sp) (dvs : List V) (ta : TA) : TS := fun _ σ H => tMkO C sp dvs ta σ H E
section
variable {K : PySem.W.Frag} {σ : L2.St} {H : Hp} {Q : VK} {D : Ends} {E : XK} {C : Addr}
theorem r_raiseO {sp : Sp} {dvs : List V} {ta : TA} (q : ta σ H fun vs H1 => vs.length ≤ 1000 ∧ ∀ a, H1 a = none → sp (.ref a :: (vs ++ dvs)) (upd H1 a (exo a C none))
  (fun v H2 => v = .non ∧ ∃ (d : Addr) (fs : List (Str × V)), H2 a = some (exo a C (some d)) ∧ H2 d = some (exd d fs) ∧ H1 d = none ∧ E (.ref C) (some d) (upd (del H2 a) d (.xd fs))) (fun _ _ _ => False)) : tRaiseO E C sp dvs ta D σ H := q
theorem r_veI {ta : TA} (q : ta σ H fun vs H1 => ∃ (a C : Addr) (ws : List V), vs = .ref a :: ws ∧ ws.length ≤ 1000 ∧ OexC K C ∧ H1 a = some (exo a C none) ∧ Q .non H1) : tVeI K ta σ H Q := q
theorem r_veIa {a : Addr} {ws : List V} {P : Prop} (hl : ws.length ≤ 1000) (o : OexC K C) (h : H a = some (exo a C none)) (q : P) : ∃ (a' C : Addr) (ws' : List V), V.ref a :: ws = .ref a' :: ws' ∧ ws'.length ≤ 1000 ∧ OexC K C ∧ H a' = some (exo a' C none) ∧ P := ⟨a, C, ws, rfl, hl, o, h, q⟩
def rOst (K : PySem.W.Frag) (f : Str) (y x : V) (H2 : Hp) (P : Hp → Prop) : Prop := ∃ a C : Addr, x = .ref a ∧ OexC K C ∧ PySem.W.findIn K (.ref C) f = some none ∧
  ((H2 a = some (exo a C none) ∧ ∀ dx, H2 dx = none → dx ≠ a → P (upd (upd H2 dx (exd dx [(f, y)])) a (exo a C (some dx)))) ∨
    ∃ (dx : Addr) (fs : List (Str × V)), H2 a = some (exo a C (some dx)) ∧ H2 dx = some (exd dx fs) ∧ fs.length ≤ 900 ∧ P (upd H2 dx (exd dx ((f, y) :: fs))))
theorem r_ost {f : Str} {to te : TE} (q : te σ H fun y H1 => to σ H1 fun x H2 => rOst K f y x H2 fun H3 => D.nx σ H3) : tOst K f to te D σ H := q
theorem r_ostN {a : Addr} {f : Str} {y : V} {P : Hp → Prop} (o : OexC K C) (n : PySem.W.findIn K (.ref C) f = some none) (h : H a = some (exo a C none)) (q : ∀ dx, H dx = none → dx ≠ a → P (upd (upd H dx (exd dx [(f, y)])) a (exo a C (some dx)))) : rOst K f y (.ref a) H P := ⟨a, C, rfl, o, n, .inl ⟨h, q⟩⟩
/-- what stands behind the making of an exception -/
theorem same_exc {H1 H2 : Hp} {a d : Addr} {u : HO} (na : H1 a = none) (nd : H1 d = none) (s : Same H1 H2) : Same H1 (upd (del H2 a) d u) := fun b o h => by
  rw [upd_ne (ne_of_none h nd), del_ne (ne_of_none h na)]
  exact s b o h
end
/-! isinstance of what a suite holds, with its fields or without -/
def XDok (H : Hp) (d : Option Addr) : Prop := d = none ∨ ∃ dd fs, d = some dd ∧ H dd = some (.xd fs)
def rIsY (K : PySem.W.Frag) (cls : Value) (d : Option Addr) (a : Addr) : List V → Hp → VK → Prop := fun xs H Q =>
  ∃ (c : V) (cv : Value) (D : Addr) (b : Bool), xs = [.ref a, c] ∧ cls = .ref D ∧ XDok H d ∧ ExcC K D ∧ ClsV c cv ∧ PySem.W.kitOne K (.ref D) cv = some b ∧ Q (.bl b) H
def rIsYT (K : PySem.W.Frag) (cls : Value) (d : Option Addr) (a : Addr) : List V → Hp → VK → Prop := fun xs H Q =>
  ∃ (tp : Addr) (cs : List V) (us : List Value) (D : Addr) (b : Bool), xs = [.ref a, .ref tp] ∧ H tp = some (.tup cs) ∧ cls = .ref D ∧ XDok H d ∧ ExcC K D ∧ Paired ClsV cs us ∧ PySem.W.kitAny K (.ref D) us = some b ∧ Q (.bl b) H
theorem inst_y {P : Program} {w : World} {H : Hp} {h : Heap} {a D : Addr} {oe : Obj} {d : Option Addr} (hok : HOk P w H h) (hget : h.get? a = some oe) (hz : Zc (.ref D) d oe) (hf : ∃ vs, oe.data = .fields vs) (hd : XDok H d) : ∃ od, PySem.W.InstAt h a oe D od := by
  obtain ⟨vs, hv⟩ := hf
  have hn : PySem.W.notCls oe = true := by unfold PySem.W.notCls; rw [hv]
  rcases hd with rfl | ⟨dd, fs, rfl, hx⟩
  · exact ⟨none, hget, hz.1, hn, by rw [hz.2]; trivial⟩
  · obtain ⟨mA, hns, _⟩ := (hok dd _ hx : ObjOk P w H h dd (.xd fs))
    obtain ⟨od, ho, _⟩ := lookIn_ns hns
    exact ⟨some od, hget, hz.1, hn, by rw [hz.2]; exact ho⟩
theorem excC_cls {K : PySem.W.Frag} {D : Addr} (C : ExcC K D) : (PySem.W.clsIn K D).isSome = true := by
  have h := C.hd
  unfold PySem.W.hasDictIn at h
  cases e : PySem.W.clsIn K D with
  | none => rw [e] at h; cases h
  | some _ => rfl
theorem call_isY {X : Cx} {a : Addr} {oe : Obj} {cls : Value} {d : Option Addr} {pn : List (Addr × Obj)} (hz : Zc cls d oe) (hf : ∃ vs, oe.data = .fields vs) : CallR (X.suite a ((a, oe) :: pn)) (.builtin "isinstance") (rIsY X.K cls d a) := by
  intro pins s σ H xs us Q I r h
  obtain ⟨c, cv, D, b, rfl, rfl, hd, C, hc, e, q⟩ := h
  obtain ⟨u1, u2, rfl, r1, r2⟩ := vals2 r
  cases (show u1 = Value.ref a from r1)
  have ec := hc.eq r2
  subst ec
  have hget := (I.pin (a, oe) (List.mem_append_left _ List.mem_cons_self)).1
  obtain ⟨od, J⟩ := inst_y I.hok hget hz hf hd
  exact PySem.W.kia_one (PySem.W.kitx_exc (excC_cls C) C.hg C.hk C.hs C.ha C.hn C.ht C.hm) I.kIn J e (fun z => nomatch z) fun tk => ⟨.bl b, H, I.tok tk, rfl, q⟩
theorem call_isYT {X : Cx} {a : Addr} {oe : Obj} {cls : Value} {d : Option Addr} {pn : List (Addr × Obj)} (hz : Zc cls d oe) (hf : ∃ vs, oe.data = .fields vs) : CallR (X.suite a ((a, oe) :: pn)) (.builtin "isinstance") (rIsYT X.K cls d a) := by
  intro pins s σ H xs us Q I r h
  obtain ⟨tp, cs, ws, D, b, rfl, hT, rfl, hd, C, hc, e, q⟩ := h
  obtain ⟨u1, u2, rfl, r1, r2⟩ := vals2 r
  cases (show u1 = Value.ref a from r1)
  cases (show u2 = Value.ref tp from r2)
  have hget := (I.pin (a, oe) (List.mem_append_left _ List.mem_cons_self)).1
  obtain ⟨od, J⟩ := inst_y I.hok hget hz hf hd
  have hO : ObjOk X.prog X.w H s.heap tp (.tup cs) := I.hok tp _ hT
  obtain ⟨_, its, rv, ⟨oc, od, dt, sl⟩, g1, g2, n, g3⟩ := hO
  have e4 : its = ws := ClsV.all hc rv
  subst e4
  dsimp only at g2 g3
  subst g2 g3
  exact PySem.W.kia_tup (PySem.W.kitx_exc (excC_cls C) C.hg C.hk C.hs C.ha C.hn C.ht C.hm) I.kIn J g1 e (fun z => nomatch z) fun tk => ⟨.bl b, H, I.tok tk, rfl, q⟩
theorem xd_none {H : Hp} : XDok H none := .inl rfl
theorem xd_some {H : Hp} {dd : Addr} {fs : List (Str × V)} (h : H dd = some (.xd fs)) : XDok H (some dd) := .inr ⟨dd, fs, rfl, h⟩
/-- e.f of what a suite holds -/
theorem r_xf {σ : L2.St} {H : Hp} {Q : VK} {a C : Addr} {cls : Value} {d : Option Addr} {f : Str} {te : TE} (q : te σ H fun x H1 => x = .ref a ∧ cls = .ref C ∧ ∃ (dd : Addr) (fs : List (Str × V)) (v : V), d = some dd ∧ H1 dd = some (.xd fs) ∧ fs.lookup f = some v ∧ Q v H1) : tXf a cls d C f te σ H Q := q
theorem r_xfa {H : Hp} {P : V → Prop} {a C dd : Addr} {f : Str} {fs : List (Str × V)} {v : V} (h : H dd = some (.xd fs)) (l : fs.lookup f = some v) (q : P v) : V.ref a = .ref a ∧ Value.ref C = .ref C ∧ ∃ (dd' : Addr) (fs : List (Str × V)) (v : V), some dd = some dd' ∧ H dd' = some (.xd fs) ∧ fs.lookup f = some v ∧ P v := ⟨rfl, rfl, dd, fs, v, rfl, h, l, q⟩
end Vs

/-! ## set(xs) of a list of keys of any kind, its length -/
namespace Vs
open PySem PySem.Spec PyProof.Rows L2
/-- how many unlike ones stand among the first i -/
def dcnt {κ : Type} [DecidableEq κ] (ks : List κ) : Nat → Nat
  | 0 => 0
  | i + 1 => match ks[i]? with
    | some k => if k ∈ ks.take i then dcnt ks i else dcnt ks i + 1
    | none => dcnt ks i
theorem dcnt_in {κ : Type} [DecidableEq κ] {ks : List κ} {i : Nat} {k : κ} (h : ks[i]? = some k) (z : k ∈ ks.take i) : dcnt ks (i + 1) = dcnt ks i := by
  show (match ks[i]? with | some k => if k ∈ ks.take i then dcnt ks i else dcnt ks i + 1 | none => dcnt ks i) = _
  rw [h]; exact if_pos z
theorem dcnt_new {κ : Type} [DecidableEq κ] {ks : List κ} {i : Nat} {k : κ} (h : ks[i]? = some k) (z : ¬ k ∈ ks.take i) : dcnt ks (i + 1) = dcnt ks i + 1 := by
  show (match ks[i]? with | some k => if k ∈ ks.take i then dcnt ks i else dcnt ks i + 1 | none => dcnt ks i) = _
  rw [h]; exact if_neg z
theorem dcnt_le {κ : Type} [DecidableEq κ] {ks : List κ} : ∀ i, dcnt ks i ≤ i
  | 0 => Nat.le_refl _
  | i + 1 => by
    have := dcnt_le (ks := ks) i
    unfold dcnt
    split
    · split <;> omega
    · omega
theorem dcnt_eq {κ : Type} [DecidableEq κ] {ks : List κ} : ∀ i, i ≤ ks.length → (dcnt ks i = i ↔ (ks.take i).Nodup)
  | 0, _ => by simp [dcnt]
  | i + 1, hi => by
    have hk : ks[i]? = some ks[i] := List.getElem?_eq_getElem hi
    have ih := dcnt_eq (ks := ks) i (Nat.le_of_lt hi)
    have le := dcnt_le (ks := ks) i
    have e : ks.take (i + 1) = ks.take i ++ [ks[i]] := by rw [List.take_add_one, hk]; rfl
    unfold dcnt
    rw [hk, e]
    dsimp only
    rw [List.nodup_append]
    by_cases hm : ks[i] ∈ ks.take i
    · rw [if_pos hm]
      exact ⟨fun z => by omega, fun z => absurd rfl (z.2.2 _ hm _ (List.mem_singleton.mpr rfl))⟩
    · rw [if_neg hm]
      constructor
      · intro z
        refine ⟨ih.mp (by omega), by simp, fun a ha b hb => ?_⟩
        rw [List.mem_singleton] at hb
        subst hb
        exact fun q => hm (q ▸ ha)
      · intro z
        have := ih.mpr z.1
        omega
/-- len(set(xs)), xs a list of texts -/
def tLenSetG (K : PySem.W.Frag) (ta : TE) : TE := fun σ H Q => ta σ H fun x H1 => ∃ (l : Addr) (zs : List Str), x = .ref l ∧ SqL K H1 l (zs.map V.str) ∧ zs.length ≤ 1000 ∧ Q (.int (dcnt zs zs.length : Nat)) H1
section
variable {K : PySem.W.Frag} {σ : L2.St} {H : Hp} {Q : VK} {ta : TE}
theorem r_lenSetG (q : ta σ H fun x H1 => ∃ (l : Addr) (zs : List Str), x = .ref l ∧ SqL K H1 l (zs.map V.str) ∧ zs.length ≤ 1000 ∧ Q (.int (dcnt zs zs.length : Nat)) H1) : tLenSetG K ta σ H Q := q
theorem r_lsg {l : Addr} {zs : List Str} {P : List Str → Prop} (h : SqL K H l (zs.map V.str)) (few : zs.length ≤ 1000) (q : P zs) : ∃ (l' : Addr) (zs : List Str), V.ref l = .ref l' ∧ SqL K H l' (zs.map V.str) ∧ zs.length ≤ 1000 ∧ P zs := ⟨l, zs, rfl, h, few, q⟩
/-- list(xs) -/
def rListOf (K : PySem.W.Frag) : List V → Hp → VK → Prop := fun xs H Q => ∃ p ys, xs = [.ref p] ∧ (SqL K H p ys ∨ SqT K H p ys) ∧ ∀ l, H l = none → Q (.ref l) (upd H l (.lst ys))
theorem r_listL {p : Addr} {ys : List V} (h : SqL K H p ys) (q : ∀ l, H l = none → Q (.ref l) (upd H l (.lst ys))) : rListOf K [.ref p] H Q := ⟨p, ys, rfl, .inl h, q⟩
theorem r_listT {p : Addr} {ys : List V} (h : SqT K H p ys) (q : ∀ l, H l = none → Q (.ref l) (upd H l (.lst ys))) : rListOf K [.ref p] H Q := ⟨p, ys, rfl, .inr h, q⟩
/-- tuple(xs) -/
def rTupOf (K : PySem.W.Frag) : List V → Hp → VK → Prop := fun xs H Q => ∃ p ys, xs = [.ref p] ∧ ((SqL K H p ys ∧ ∀ l, H l = none → Q (.ref l) (upd H l (.tup ys))) ∨ (SqT K H p ys ∧ Q (.ref p) H))
theorem r_tupL {p : Addr} {ys : List V} (h : SqL K H p ys) (q : ∀ l, H l = none → Q (.ref l) (upd H l (.tup ys))) : rTupOf K [.ref p] H Q := ⟨p, ys, rfl, .inl ⟨h, q⟩⟩
end
end Vs

/-! ## set(xs) of a list of keys of any kind, its length -/
namespace Vs
open PySem PySem.Spec PyProof.Rows L2
section
variable {P : Program} {w : World} {κ : Type} [DecidableEq κ] [BEq κ] [LawfulBEq κ] {knd : KeyKind P w κ}
/-- all that is walked goes into the set at S -/
theorem fillSet {A : Around} {R : Result → Shared → Prop} {I : Addr} {fp wr : List Addr} {G : Array GenState → Array GenState → Prop} {n : Nat} {Pv : Nat → Value → Prop} {St : Nat → Shared → Prop}
    (W : WalksS P w A.in1 I fp wr G n Pv St) (S : Addr) (off : S ∉ fp) (ks : List κ) (item : ∀ i v, i < n → Pv i v → ∃ k, ks[i]? = some k ∧ knd.is k v = true ∧ v.scannable = true) (few : n + 1 < scanBound) :
    ∀ (left i : Nat) (s : Shared), n - i = left → i ≤ n → St i s → s.heap.SetOf knd S (fun k => decide (k ∈ ks.take i)) (dcnt ks i) →
      (∀ s', Moved (S :: wr) G s s' → s'.heap.SetOf knd S (fun k => decide (k ∈ ks.take n)) (dcnt ks n) → R (.ok (.ret .none)) s') →
      codeAny (model P w) A (.builtin "set.update.loop" ⟨[.ref S, .ref I], []⟩) R s
  | 0, i, s, e, le, st, hS, q => by
    obtain rfl : i = n := by omega
    refine codeAny_builtin F.entry_set_update_loop (by
      rw [Around.under_plainId F.plain_set_update_loop _]
      refine wpAny_bind (W.done s _ _ st fun s1 mv => ?_)
      have hS1 : s1.heap.SetOf knd S (fun k => decide (k ∈ ks.take i)) (dcnt ks i) := by
        obtain ⟨o, es, ep, t, ho, more⟩ := hS
        exact ⟨o, es, ep, t, mv.heap S _ (fun z => off (W.sub _ z)) ho, more⟩
      show wpAny _ A.in1 (ret Value.none) _ _ s1
      exact wpAny_pure (q s1 (mv.mono fun b hb => List.mem_cons_of_mem _ hb) hS1))
  | left + 1, i, s, e, le, st, hS, q => by
    have lt : i < n := by omega
    refine codeAny_builtin F.entry_set_update_loop (by
      rw [Around.under_plainId F.plain_set_update_loop _]
      refine wpAny_bind (W.item i s _ _ lt st fun v s1 pv st1 mv => ?_)
      obtain ⟨k, hk, kv, sc⟩ := item i v lt pv
      have hS1 : s1.heap.SetOf knd S (fun k => decide (k ∈ ks.take i)) (dcnt ks i) := by
        obtain ⟨o, es, ep, t, ho, more⟩ := hS
        exact ⟨o, es, ep, t, mv.heap S _ (fun z => off (W.sub _ z)) ho, more⟩
      show wpAny _ A.in1 (holding [v] (setAdd S v) >>= _) _ _ s1
      refine wpAny_bind (wpAny_holding ?_)
      unfold setAdd
      refine wpAny_holding (wpAny_bind (knd.pyHash kv ?_))
      have room : dcnt ks i + 1 < scanBound := by have := dcnt_le (ks := ks) i; omega
      refine wpAny_setAddHashed_of (knd := knd) (s := { s1 with toks := s1.toks + 1 }) kv sc hS1 room fun h2 sb hS2 => ?_
      have e2 : ks.take (i + 1) = ks.take i ++ [k] := by rw [List.take_add_one, hk]; rfl
      have hS3 : h2.SetOf knd S (fun k => decide (k ∈ ks.take (i + 1))) (dcnt ks (i + 1)) := SetOf_congr hS2 (fun j => by
          rw [e2]
          by_cases z : j = k
          · subst z; simp
          · simp [z]) (by
          by_cases z : k ∈ ks.take i
          · rw [dcnt_in hk z, if_pos (decide_eq_true z)]
          · rw [dcnt_new hk z, if_neg (by simpa using z)])
      refine wpAny_pure ⟨plainId_quiet F.plain_set_update_loop _, fillSet W S off ks item few left (i + 1) _ (by omega) lt (W.frame _ s1 _ _ st1 (Nat.le_succ _) fun b hb o z => ?_) hS3 fun s2 mv2 hS4 => q s2 ?_ hS4⟩
      · exact (sb.2 b fun y => off (y ▸ hb)).trans z
      · refine Moved.trans W.gtrans ((mv.mono fun b hb => List.mem_cons_of_mem _ hb).then_heap (Nat.le_succ _) fun b o nb z => ?_) mv2
        exact (sb.2 b fun y => nb (y ▸ List.mem_cons_self)).trans z)
/-- set(xs) -/
theorem setOfList {A : Around} {E : Value → Shared → Prop} {s : Shared} {l : Addr} {its : Array Value} (ks : List κ) {Q : Value → Shared → Prop} (hd : A.handled = none) (hl : s.heap.IsList l its)
    (item : ∀ (i : Nat) (v : Value), its[i]? = some v → ∃ k, ks[i]? = some k ∧ knd.is k v = true ∧ v.scannable = true) (few : its.size + 1 < scanBound)
    (q : ∀ (h2 : Heap) (tk : Nat), h2.SetOf knd s.heap.objs.size (fun k => decide (k ∈ ks.take its.size)) (dcnt ks its.size) → (∀ b o, b < s.heap.objs.size → s.heap.get? b = some o → h2.get? b = some o) → Q (.ref s.heap.objs.size) { s with heap := h2, toks := tk }) :
    wpAny (model P w) A (call (.type "set") [.ref l]) Q E s := by
  obtain ⟨c, tl, hmro⟩ := PySem.F.called_set.mro
  have k1 := PySem.F.called_set.made
  have k2 := PySem.F.called_set.sub
  have k3 := PySem.F.called_set.notType
  have k4 := PySem.F.called_set.canCreate
  have k5 := PySem.F.typeCall_set_1 (.ref l)
  refine wpAny_call (codeAny_of_tree (show wpAny _ _ (callAny (.type "set") _) _ _ _ from wpAny_pure ⟨Code.quiet_builtin _ (by decide +kernel), codeAny_builtin PySem.F.entry_type_call ?_⟩))
  rw [Around.under_plain (weight_type_call_type "set" [.ref l] []) rfl]
  repeat (any_goals (first | assumption | wp_step))
  let fresh : Bool → Obj := fun led => { cls := .type "set", dict := none, data := .set #[] 0 (.fresh 0 0 led) }
  refine codeAny_mono (code_set_new_1 (.ref l) (E := E) (Q₁ := fun ob s1 => ∃ led : Bool, ob = .ref s.heap.objs.size ∧ s1 = { s with heap := s.heap.push (fresh led) }) fun led => ⟨led, rfl, rfl⟩) fun r s1 hr => ?_
  match r, hr with
  | .error e, hr => exact hr
  | .ok .next, hr => exact hr.elim
  | .ok .brk, hr => exact hr.elim
  | .ok .cont, hr => exact hr.elim
  | .ok (.ret ob), hr =>
    obtain ⟨led, rfl, rfl⟩ := hr
    have at0 : (s.heap.push (fresh led)).get? s.heap.objs.size = some (fresh led) := Heap.get?_push_size _ rfl
    have ty : Shared.TypeIs { s with heap := s.heap.push (fresh led) } (.ref s.heap.objs.size) "set" := ⟨_, at0, rfl⟩
    have k6 := PySem.F.called_set.init.lookup
    have k7 := PySem.F.called_set.init.bind (.ref s.heap.objs.size)
    repeat (any_goals (first | assumption | wp_step))
    refine codeAny_mono (codeAny_call_builtin (R := wants (fun r s2 => r = .none ∧ ∃ h2 tk, s2 = { s with heap := h2, toks := tk } ∧ h2.SetOf knd s.heap.objs.size (fun k => decide (k ∈ ks.take its.size)) (dcnt ks its.size) ∧
        (∀ b o, b < s.heap.objs.size → s.heap.get? b = some o → h2.get? b = some o)) E) PySem.F.called_set.init.plain PySem.F.entry_set_init (check_set_init_1 ty ?_)) fun r2 s2 hr2 => ?_
    · obtain ⟨⟨oc, od, ot, os⟩, ho, hc, nl, hdt⟩ := hl
      simp only at hc hdt
      subst hc hdt
      have ho1 : (s.heap.push (fresh led)).get? l = some { cls := .type "list", dict := od, data := .seq its nl, slots := os } := Heap.get?_push_of_some _ ho
      have k8 := PySem.F.sub_list_set
      have k9 := PySem.F.sub_list_frozenset
      have k10 : (Value.type "list" == Value.type "dict") = false := by decide
      have hl1 : (s.heap.push (fresh led)).IsList l its := ⟨_, ho1, rfl, nl, rfl⟩
      unfold Builtin.«set.__init__» noKeywords Builtin.Frozenset.updateFrom
      generalize hPI : pyIter = PI
      wp_walk
      subst hPI
      refine wpAny_pyIter_list hl1 (wpAny_bind (wpAny_runValue ?_))
      have lt : l < s.heap.objs.size := Heap.lt_size ho
      have hd3 : A.in1.in1.in1.handled = none := by simp [hd]
      have sz : (s.heap.push (fresh led)).objs.size = s.heap.objs.size + 1 := Heap.size_push ..
      have ne1 : l ≠ (s.heap.push (fresh led)).objs.size := by rw [sz]; exact Nat.ne_of_lt (Nat.lt_succ_of_lt lt)
      have off : s.heap.objs.size ∉ [(s.heap.push (fresh led)).objs.size, l] := by
        rw [sz]
        simp only [List.mem_cons, List.not_mem_nil, or_false, not_or]
        exact ⟨Nat.ne_of_lt (Nat.lt_succ_self _), Nat.ne_of_gt lt⟩
      refine fillSet ((Walks.list hd3 _ l ne1 its).toS) s.heap.objs.size off ks (fun i v _ pv => item i v pv) few (its.size - 0) 0 _ (by omega) (Nat.zero_le _) ⟨⟨_, Heap.get?_push_size _ rfl, rfl, rfl⟩, (hl1.push _)⟩ ?_ fun s3 mv hS => ?_
      · have at1 : ((s.heap.push (fresh led)).push { cls := .type "list_iterator", data := .fields #[.ref l, .int 0 0] }).get? s.heap.objs.size = some (fresh led) := Heap.get?_push_of_some _ at0
        exact SetOf_congr ((setObjOf_fresh (knd := knd) led).setOf at1 (by unfold scanBound; omega)) (fun _ => by simp) rfl
      · obtain ⟨h3, g3, d3, tk3, os3⟩ := s3
        have e1 : g3 = s.gens := mv.gens
        have e2 : d3 = s.drawn := mv.drawn
        have e3 : os3 = s.os := mv.os
        subst e1 e2 e3
        show wpAny _ _ _ _ _ _
        refine wpAny_pure (show wpAny _ _ (ret Value.none) _ _ _ from wpAny_pure ⟨rfl, h3, tk3, rfl, hS, fun b o hb z => ?_⟩)
        refine mv.heap b o ?_ (Heap.get?_push_of_some _ (Heap.get?_push_of_some _ z))
        simp only [List.mem_cons, List.not_mem_nil, or_false, not_or]
        exact ⟨Nat.ne_of_lt hb, by rw [sz]; exact Nat.ne_of_lt (Nat.lt_succ_of_lt hb)⟩
    · match r2, hr2 with
      | .error e, hr2 => exact hr2
      | .ok .next, hr2 => exact hr2.elim
      | .ok .brk, hr2 => exact hr2.elim
      | .ok .cont, hr2 => exact hr2.elim
      | .ok (.ret r), hr2 =>
        obtain ⟨rfl, h2, tk, rfl, hS, kp⟩ := hr2
        repeat (any_goals (first | assumption | wp_step))
        exact q _ _ hS kp
end
theorem strs_item : ∀ {zs : List Str} {us : List Value}, Vals (zs.map V.str) us → ∀ (i : Nat) (v : Value), us[i]? = some v → ∃ z t, zs[i]? = some z ∧ v = .str z t
  | [], _, .nil, i, v, e => by simp at e
  | z :: zs, _, .cons r t, 0, v, e => by
    obtain ⟨k, rfl⟩ := r
    simp at e
    exact ⟨z, k, by simp, e.symm⟩
  | z :: zs, _, .cons r t, i + 1, v, e => by
    simp only [List.getElem?_cons_succ] at e ⊢
    exact strs_item t i v e
theorem pe_lenSetG {X : Cx} {a : Expr} {ta : TE} {p p2 q pos : Pos} (hc : X.calm = true) (hg : Gl X "len") (hm : X.mg "len" = none) (hg2 : Gl X "set") (hm2 : X.mg "set" = none) (ha : PE X a ta)
    (na : starEach [a] X.env = (false, eval a X.env) :: starEach [] X.env := by rfl) : PE X (.Call (.Name "len" p) [.Call (.Name "set" p2) [a] [] q] [] pos) (tLenSetG X.K ta) := by
  refine ⟨fun pins s σ H Q I h => Call_ (ld_blt I hg hm boot_len (callWith_builtin1 (args_cons (Call_ (ld_blt I hg2 hm2 boot_set (callWith_type1 (args_cons (thn (ha.run pins s σ H _ I h) fun v s1 hv => args_nil ?_) na) na rfl))) rfl) rfl rfl))⟩
  obtain ⟨x, H1, I1, r1, l, zs, rfl, hq, few, q1⟩ := hv
  cases r1
  obtain ⟨its, rv, pl, _⟩ := I1.list hq
  have len : its.toArray.size = zs.length := by rw [List.size_toArray, ← rv.length, List.length_map]
  refine setOfList (knd := PySem.strKind X.prog X.w) zs (I1.ok.hd hc) pl.isList (fun i v hv => ?_) (by rw [len]; unfold scanBound; omega) fun h2 tk hS kp => args_nil ?_
  · obtain ⟨z, t, hz, rfl⟩ := strs_item rv i v (by simpa using hv)
    exact ⟨z, hz, strKind_is _ _ _ _, rfl⟩
  · rw [len] at hS
    obtain ⟨o, es, ep, t, ho, hex, hdt, _, _, _, fit, hn⟩ := hS
    have J : Inv X pins σ H1 { s1 with heap := h2, toks := tk } := I1.kept fun b o e => kp b o (Heap.lt_size e) e
    exact call_len_set ho hex hdt fit (by rw [hn]; have := dcnt_le (ks := zs) zs.length; omega) ⟨.int (dcnt zs zs.length : Nat), H1, J.tok _, ⟨_, by rw [hn]⟩, q1⟩
end Vs

open PySem PySem.Spec PyProof.Rows L2 Vs
namespace Vs
theorem upd_none {H : Hp} {a b : Addr} {o : HO} (h : upd H a o b = none) : H b = none := by
  by_cases e : b = a
  · rw [e, upd_same] at h; cases h
  · rw [upd_ne e] at h; exact h
theorem none_same {H H' : Hp} {a : Addr} (s : Same H H') (h : H' a = none) : H a = none := by
  cases e : H a with
  | none => rfl
  | some o => rw [s a o e] at h; cases h
theorem none_kp {l : Addr} {H H' : Hp} {a : Addr} {o : HO} (hl : H' l = some o) (s : Kp l H H') (h : H' a = none) : H a = none := free_back s h hl
theorem kp_del {l : Addr} {H H' : Hp} (k : Kp l H H') : Same (del H l) H' := fun b o h => by
  by_cases e : b = l
  · rw [e, del_same] at h; cases h
  · rw [del_ne e] at h; exact k b o h e
theorem kp_deld {l : Addr} {H H' : Hp} (k : Kp l H H') : Same (del H l) (del H' l) := fun b o h => by
  by_cases e : b = l
  · rw [e, del_same] at h; cases h
  · rw [del_ne e] at h ⊢; exact k b o h e
theorem Same.delr {l : Addr} {H H' : Hp} (s : Same H H') (n : H l = none) : Same H (L2.del H' l) := fun b o h => by rw [del_ne (ne_of_none h n)]; exact s b o h
theorem kp_delr {k l : Addr} {H H' : Hp} (s : Kp k H H') (n : H l = none) : Kp k H (L2.del H' l) := fun b o h e => by rw [del_ne (ne_of_none h n)]; exact s b o h e
theorem del_at {l a : Addr} {H : Hp} {o : HO} (h : H a = some o) (n : a ≠ l) : del H l a = some o := by rw [del_ne n]; exact h
theorem del_none {l a : Addr} {H : Hp} (h : H a = none) : del H l a = none := by
  by_cases e : a = l
  · rw [e, del_same]
  · rw [del_ne e]; exact h
theorem Same.at {H H' : Hp} {b : Addr} {o : HO} (k : Same H H') (h : H b = some o) : H' b = some o := k b o h
theorem sqL_of {K : PySem.W.Frag} {H : Hp} {a : Addr} {o : HO} {xs : List V} (h : H a = some o) (e : o = .lst xs) : SqL K H a xs := SqL.of (e ▸ h)
theorem sqT_of {K : PySem.W.Frag} {H : Hp} {a : Addr} {o : HO} {xs : List V} (h : H a = some o) (e : o = .tup xs) : SqT K H a xs := SqT.of (e ▸ h)
/-- a written place of a written list -/
theorem ix_some {α : Type} {xs : List α} {i : Int} {n : Nat} {v : α} (e : i = (n : Int)) (h : xs[n]? = some v) : atI xs i = some v := by rw [e]; exact atI_nat h
theorem r_ixA {K : PySem.W.Frag} {H : Hp} {Q : VK} {i : Int} {p : Addr} {xs : List V} (P : V → Prop) (h : SqL K H p xs) (h0 : 0 ≤ i) (h1 : i < (xs.length : Int)) (hP : ∀ v ∈ xs, P v) (q : ∀ v, P v → Q v H) : rIx K (.ref p) (.int i) H Q := by
  have hl : i.toNat < xs.length := by omega
  have hg : xs[i.toNat]? = some xs[i.toNat] := List.getElem?_eq_getElem hl
  exact r_ixL h (ix_some (n := i.toNat) (by omega) hg) (q _ (hP _ (List.getElem_mem hl)))
theorem r_ixAT {K : PySem.W.Frag} {H : Hp} {Q : VK} {i : Int} {p : Addr} {xs : List V} (P : V → Prop) (h : SqT K H p xs) (h0 : 0 ≤ i) (h1 : i < (xs.length : Int)) (hP : ∀ v ∈ xs, P v) (q : ∀ v, P v → Q v H) : rIx K (.ref p) (.int i) H Q := by
  have hl : i.toNat < xs.length := by omega
  have hg : xs[i.toNat]? = some xs[i.toNat] := List.getElem?_eq_getElem hl
  exact r_ixT h (ix_some (n := i.toNat) (by omega) hg) (q _ (hP _ (List.getElem_mem hl)))
theorem r_ixH {K : PySem.W.Frag} {H : Hp} {Q : VK} {i : Int} {p : Addr} {xs : List V} (P : V → Hp → Prop) (h : SqL K H p xs) (h0 : 0 ≤ i) (h1 : i < (xs.length : Int)) (hP : ∀ v ∈ xs, P v H) (q : ∀ v, P v H → Q v H) : rIx K (.ref p) (.int i) H Q := r_ixA (fun v => P v H) h h0 h1 hP q
/-- an item of a list of ints, at a place that lies in it -/
theorem r_ixI {K : PySem.W.Frag} {H : Hp} {Q : VK} {i : Int} {p : Addr} {xs : List V} (h : SqL K H p xs) (h0 : 0 ≤ i) (h1 : i < (xs.length : Int)) (hP : ∀ v ∈ xs, ∃ z : Int, v = .int z) (q : ∀ z, Q (.int z) H) : rIx K (.ref p) (.int i) H Q :=
  r_ixA _ h h0 h1 hP fun v ⟨z, e⟩ => e ▸ q z
theorem r_ixIT {K : PySem.W.Frag} {H : Hp} {Q : VK} {i : Int} {p : Addr} {xs : List V} (h : SqT K H p xs) (h0 : 0 ≤ i) (h1 : i < (xs.length : Int)) (hP : ∀ v ∈ xs, ∃ z : Int, v = .int z) (q : ∀ z, Q (.int z) H) : rIx K (.ref p) (.int i) H Q :=
  r_ixAT _ h h0 h1 hP fun v ⟨z, e⟩ => e ▸ q z
end Vs
/-- nothing stands at an address -/
local macro_rules | `(tactic| kd_p1) => `(tactic| first
  | with_reducible assumption
  | with_reducible exact upd_none (by with_reducible assumption)
  | with_reducible exact upd_none (upd_none (by with_reducible assumption))
  | with_reducible exact upd_none (upd_none (upd_none (by with_reducible assumption)))
  | with_reducible exact upd_none (upd_none (upd_none (upd_none (by with_reducible assumption))))
  | with_reducible exact upd_none (upd_none (upd_none (upd_none (upd_none (by with_reducible assumption)))))
  | with_reducible exact upd_none (upd_none (upd_none (upd_none (upd_none (upd_none (by with_reducible assumption))))))
  | ((with_reducible refine' none_same ?s ?h); (case h => with_reducible assumption); (case s => k_subL))
  | with_reducible exact del_same
  | ((with_reducible refine' del_none ?h); (case h => kd_p1))
  | ((with_reducible refine' dif_none ?h); (case h => kcj_m))
  | ((with_reducible refine' none_same ?s ?h); (case s => with_reducible assumption); (case h => kd_p1))
  | ((with_reducible refine' none_kp ?l ?s ?h); (case s => with_reducible assumption); (case l => kcj_m); (case h => kd_p1)))
/-- two addresses apart -/
local macro_rules | `(tactic| k_clsL) => `(tactic| first
  | with_reducible assumption
  | with_reducible exact Ne.symm (by with_reducible assumption)
  | ((with_reducible refine' ne_of_none ?h1 ?h2); (case h2 => with_reducible assumption); (case h1 => kcj_m))
  | ((with_reducible refine' Ne.symm (ne_of_none ?h1 ?h2)); (case h2 => with_reducible assumption); (case h1 => kcj_m))
  | ((with_reducible refine' ne_of ?h1 ?h2 ?d); (case h1 => with_reducible assumption); (case h2 => kcj_m); (case d => intro z; cases z)))
/-- what stands at an address -/
local macro_rules | `(tactic| kcj_m) => `(tactic| first
  | with_reducible assumption
  | with_reducible exact upd_same
  | ((with_reducible refine' upd_old ?hp ?h); (case hp => with_reducible assumption); (case h => kcj_m))
  | ((with_reducible refine' Eq.trans (upd_ne ?ne) ?hq); (case ne => k_clsL); (case hq => kcj_m))
  | ((with_reducible refine' Kp.at ?k ?hq ?ne); (case k => with_reducible assumption); (case hq => kcj_m); (case ne => k_clsL))
  | ((with_reducible refine' del_at ?hq ?ne); (case hq => kcj_m); (case ne => k_clsL))
  | ((with_reducible refine' dif_at ?h ?hq); (case h => kd_p1); (case hq => kcj_m))
  | ((with_reducible refine' Same.at ?k ?hq); (case k => with_reducible assumption); (case hq => kcj_m)))
local macro_rules | `(tactic| k_places) => `(tactic| first
  | with_reducible assumption
  | ((with_reducible refine' Same.seq ?k ?h); (case h => with_reducible assumption); (case k => k_subL))
  | ((with_reducible refine' Kp.seqn ?k ?hl ?h); (case h => with_reducible assumption); (case hl => with_reducible assumption); (case k => k_subL))
  | ((with_reducible refine' sqL_of ?hq ?e); (case hq => kcj_m); (case e => exact rfl))
  | ((with_reducible refine' sqT_of ?hq ?e); (case hq => kcj_m); (case e => exact rfl)))
local macro_rules | `(tactic| k_offL) => `(tactic| first
  | with_reducible assumption
  | (show CMul _ _; unfold CMul; omega)
  | exact ⟨by omega, by omega⟩
  | (show (0 : Int) < _; omega)
  | (show (0 : Int) ≤ _; omega)
  | exact ⟨by omega, by omega, by decide⟩
  | exact wide_div (by omega) (b := 64) (by omega) (by decide) (by decide)
  | exact ⟨by decide, by decide, by decide⟩
  | omega)
/-- a value's type -/
local macro_rules | `(tactic| kfm_turns) => `(tactic| first
  | with_reducible assumption
  | exact .base (.int _)
  | exact .base (.bl _)
  | exact .base .non
  | exact .base (.str _)
  | (refine' .base (.tup ?hq); (case hq => kcj_m))
  | (refine' .base (.dK ?hq); (case hq => kcj_m))
  | (refine' .base (.lst ?hq); (case hq => kcj_m))
  | ((with_reducible refine' InsT.ty ?i ?hq); (case hq => kcj_m); (case i => with_reducible assumption)))
/-- one step -/
local macro_rules | `(tactic| k_memK) => `(tactic| first
  | ((with_reducible refine' r_var ?h ?_); (case h => exact rfl))
  | (with_reducible refine r_c ?_)
  | (with_reducible refine r_op ?_)
  | (with_reducible refine r_un ?_)
  | (with_reducible refine r_seq ?_)
  | (with_reducible refine r_asg ?_)
  | (with_reducible refine r_gName ?_)
  | (with_reducible refine r_I0 ?_)
  | ((with_reducible refine' r_I ?c ?_); (case c => k_offL))
  | (with_reducible refine r_U ?_)
  | (with_reducible refine r_nil ?_)
  | (with_reducible refine r_cons ?_)
  | (with_reducible refine r_call0 ?_)
  | (with_reducible refine r_call ?_)
  | (with_reducible refine r_cb ?_)
  | (with_reducible refine r_test ?_)
  | (with_reducible refine r_tB ?_)
  | (with_reducible refine r_isbl ?_)
  | (with_reducible refine r_isint ?_)
  | (with_reducible refine r_and ?_)
  | (with_reducible refine r_or ?_)
  | (with_reducible refine r_not ?_)
  | (with_reducible refine r_andV ?_)
  | (with_reducible refine r_orV ?_)
  | (with_reducible refine r_notV ?_)
  | ((with_reducible refine' r_ifP ?T ?h1 ?h2); (case T => kpc_turns); k_allIn)
  | ((with_reducible refine' r_tifP ?T ?h1 ?h2); (case T => kpc_turns); k_allIn)
  | ((fail_if_success (focus ((with_reducible refine' r_ifP ?T ?h1 ?h2); (case T => kpc_turns)))); (with_reducible refine r_ifS ?_))
  | ((fail_if_success (focus ((with_reducible refine' r_tifP ?T ?h1 ?h2); (case T => kpc_turns)))); (with_reducible refine r_if ?_))
  | (with_reducible refine r_chain ?_)
  | (with_reducible refine r_eqI ?_)
  | (with_reducible refine r_neI ?_)
  | (with_reducible refine r_eqB ?_)
  | (with_reducible refine r_neB ?_)
  | (with_reducible refine r_eqS ?_)
  | (with_reducible refine r_neS ?_)
  | (with_reducible refine ite_t ?_)
  | (with_reducible refine ite_f ?_)
  | (with_reducible refine ite_nt ?_)
  | (with_reducible refine ite_nf ?_)
  | ((with_reducible refine ite_y ?hp ?_); (case hp => first | (with_reducible assumption) | (with_reducible exact rfl) | omega))
  | ((with_reducible refine ite_n ?hp ?_); (case hp => first | (with_reducible assumption) | (with_reducible exact rfl) | omega))
  | ((with_reducible refine ite_ny ?hp ?_); (case hp => first | (with_reducible assumption) | (with_reducible exact rfl) | omega))
  | ((with_reducible refine ite_nn ?hp ?_); (case hp => first | (with_reducible assumption) | (with_reducible exact rfl) | omega))
  | (with_reducible refine r_next ?_)
  | (with_reducible refine r_brk ?_)
  | (with_reducible refine r_cont ?_)
  | (with_reducible refine r_ret ?_)
  | (with_reducible refine r_retN ?_)
  | (with_reducible refine r_drop ?_)
  | (with_reducible refine r_tup ?_)
  | (with_reducible refine r_lst ?_)
  | ((with_reducible refine' r_size ?h ?_); (case h => (first | decide | (simp only [List.length]; omega))))
  | ((with_reducible refine' r_ixL ?h ?ha ?_); (case h => k_places); (case ha => exact rfl))
  | ((with_reducible refine' r_ixT ?h ?ha ?_); (case h => k_places); (case ha => exact rfl))
  | ((with_reducible refine' r_lenL ?h ?_); (case h => k_places))
  | ((with_reducible refine' r_lenT ?h ?_); (case h => k_places))
  | (with_reducible refine r_gSub ?_)
  | ((with_reducible refine' r_setL ?h ?e ?_); (case h => kcj_m); (case e => exact rfl))
  | (with_reducible refine r_int1i ?_)
  | (with_reducible refine r_int1b ?_)
  | (with_reducible refine r_sl ?_)
  | (with_reducible refine r_noPart ?_)
  | ((with_reducible refine' r_slL ?h ?_); (case h => k_places))
  | ((with_reducible refine' r_cat ?h ?h2 ?hl ?_); (case h => kcj_m); (case h2 => kcj_m); (case hl => first | (with_reducible exact cells_len (by with_reducible assumption)) | (simp only [List.length]; rw [sizeLine_eq]; omega)))
  | ((with_reducible refine' r_eqDe ?hx ?hy ?sd ?h ?_); (case hx => kbo_bools); (case hy => kbo_bools); (case sd => exact rfl); (case h => got_up))
  | ((with_reducible refine' r_neDe ?hx ?hy ?sd ?h ?_); (case hx => kbo_bools); (case hy => kbo_bools); (case sd => exact rfl); (case h => got_up))
  | (with_reducible refine r_part ?_)
  | (with_reducible refine r_min2 ?_)
  | (with_reducible refine r_max2 ?_)
  | ((with_reducible refine' r_divmod ?c ?_); (case c => k_offL))
  | ((with_reducible refine' r_isi (c := true) ?ty ?h ?_); (case ty => kfm_turns); (case h => decide +kernel))
  | ((with_reducible refine' r_isi (c := false) ?ty ?h ?_); (case ty => kfm_turns); (case h => decide +kernel))
  | kas_types
  | (with_reducible refine r_fld ?_)
  | ((with_reducible refine' r_fldI ?h ?c ?n ?l ?_); (case h => kcj_m); (case c => with_reducible assumption); (case n => with_reducible assumption); (case l => exact rfl))
  | (with_reducible refine r_sfld ?_)
  | ((with_reducible refine' r_set ?h ?c ?n ?l ?e ?_); (case h => kcj_m); (case c => with_reducible assumption); (case n => with_reducible assumption); (case l => (simp only [List.length]; omega)); (case e => (first | exact putF_nil | exact putF_hit | (refine' putF_miss ?n ?r; (case n => decide); (case r => (first | exact putF_nil | exact putF_hit | (refine' putF_miss ?n ?r; (case n => decide); (case r => (first | exact putF_nil | exact putF_hit | (refine' putF_miss ?n ?r; (case n => decide); (case r => (first | exact putF_nil | exact putF_hit | (refine' putF_miss ?n ?r; (case n => decide); (case r => (first | exact putF_nil | exact putF_hit | (refine' putF_miss ?n ?r; (case n => decide); (case r => (first | exact putF_nil | exact putF_hit | (refine' putF_miss ?n ?r; (case n => decide); (case r => (first | exact putF_nil | exact putF_hit | (refine' putF_miss ?n ?r; (case n => decide); (case r => (first | exact putF_nil | exact putF_hit | (refine' putF_miss ?n ?r; (case n => decide); (case r => (first | exact putF_nil | exact putF_hit)))))))))))))))))))))))))))
  | (with_reducible refine r_meth ?_)
  | ((with_reducible refine' r_me ?h ?l ?_); (case h => kcj_m); (case l => exact rfl))
  | (with_reducible refine r_make ?_)
  | (with_reducible refine r_make0 ?_)
  | (with_reducible refine r_makeK ?_)
  | ((with_reducible refine' r_len ?h ?_); (case h => exact rfl))
  | (with_reducible refine r_makeS ?_)
  | (with_reducible refine r_non ?_)
  | ((with_reducible refine' r_isiG ?ty (.own _) ?h ?_); (case ty => kfm_turns); (case h => with_reducible assumption))
  | intro p hp
  | (with_reducible refine r_isN ?_)
  | (with_reducible refine r_notN ?_)
  | (with_reducible refine r_for ?_)
  | (with_reducible refine r_iList ?_)
  | (with_reducible refine r_iStr ?_)
  | (with_reducible refine r_inC ?_)
  | ((with_reducible refine' r_lenS ?h ?_); (case h => with_reducible assumption))
  | (with_reducible refine r_iTup ?_)
  | (with_reducible refine r_iRng1 ?_)
  | (with_reducible refine r_iRng2 ?_)
  | (with_reducible refine r_iRng3 ?_)
  | (with_reducible refine r_lc ?_)
  | (with_reducible refine r_isB ?_)
  | (with_reducible refine r_notB ?_)
  | ((with_reducible refine' r_rep ?h ?h0 ?h1 ?hl ?_); (case h => kcj_m); (case h0 => omega); (case h1 => omega); (case hl => (simp only [List.length]; rw [sizeLine_eq]; omega)))
  | ((with_reducible refine' r_gTup ?h ?e ?_); (case h => k_places); (case e => exact rfl))
  | (with_reducible refine r_gCons ?_)
  | (with_reducible refine r_gNil ?_)
  | ((with_reducible refine' r_all ?h ?_); (case h => k_places))
  | (with_reducible refine r_bm ?_)
  | (with_reducible refine r_bm0 ?_)
  | ((with_reducible refine' r_tyl ?h ?_); (case h => kcj_m)))
local macro_rules | `(tactic| k_ownIn) => `(tactic| repeat (k_memK))

local macro_rules | `(tactic| kcj_in) => `(tactic| first | (with_reducible assumption) | omega | (simp; done) | (simp; omega))
/-- a test's proposition -/
local macro_rules | `(tactic| kpc_turns) => `(tactic| first
  | ((with_reducible refine' pu_and ?a ?b); (case a => kpc_turns); (case b => (intro hp; kpc_turns)))
  | ((with_reducible refine' pu_or ?a ?b); (case a => kpc_turns); (case b => (intro hp; kpc_turns)))
  | ((with_reducible refine' pu_not ?a); (case a => kpc_turns))
  | (refine' pu_d ?a; (case a => (intro B hB; k_ownIn; exact hB)))
  | (refine' pu_n ?a; (case a => (intro B hB; k_ownIn; exact hB)))
  | (refine' pu_nb ?a; (case a => (intro B hB; k_ownIn; exact hB)))
  | (refine' pu_b ?a; (case a => (intro B hB; k_ownIn; exact hB)))
  | (refine pu_x ?_; omega))
/-- an if, its two ways left -/
local macro_rules | `(tactic| keq_rows) => `(tactic| first
  | ((with_reducible refine' r_ifP ?T ?_ ?_); (case T => kpc_turns))
  | ((with_reducible refine' r_tifP ?T ?_ ?_); (case T => kpc_turns)))

/-- all but l stands; all stands -/
local macro_rules | `(tactic| k_subL) => `(tactic| first
  | with_reducible assumption
  | with_reducible exact Kp.refl _ _
  | with_reducible exact Same.refl _
  | ((with_reducible refine Kp.upd ?_); k_subL)
  | ((with_reducible refine' Kp.new ?a ?hp); (case a => k_subL); (case hp => with_reducible assumption))
  | ((with_reducible refine' Same.new ?a ?hp); (case a => k_subL); (case hp => with_reducible assumption))
  | ((with_reducible refine' Kp.updn ?a ?hp); (case hp => kd_p1); (case a => k_subL))
  | ((with_reducible refine' Same.updn ?a ?hp); (case hp => kd_p1); (case a => k_subL))
  | with_reducible exact dif_same
  | ((with_reducible refine' kp_deld ?k); (case k => k_subL))
  | ((with_reducible refine' kp_del ?k); (case k => k_subL))
  | ((with_reducible refine' Same.delr ?k ?n); (case n => kd_p1); (case k => k_subL))
  | ((with_reducible refine' kp_delr ?k ?n); (case n => kd_p1); (case k => k_subL))
  | ((with_reducible refine' Same.kpn ?a ?b ?n); (case b => with_reducible assumption); (case n => kd_p1); (case a => k_subL))
  | ((with_reducible refine' Kp.trans ?a ?b); (case b => with_reducible assumption); (case a => k_subL))
  | ((with_reducible refine' Kp.same ?a ?b); (case b => with_reducible assumption); (case a => k_subL))
  | ((with_reducible refine' Same.trans ?a ?b); (case b => with_reducible assumption); (case a => k_subL))
  | ((with_reducible refine Same.kp ?_); k_subL))

/-- two ways, one of which can't be -/
local macro_rules | `(tactic| k_allIn) => `(tactic| first
  | (rotate_left; (focus (intro hn; exact absurd (by kcj_in) hn)); intro hp)
  | ((focus (intro hn; exact absurd hn (by kcj_in))); intro hp))

/-- data as they stand -/
local macro_rules | `(tactic| kbo_bools) => `(tactic| first
  | exact Dp.int _
  | exact Dp.str _
  | exact Dp.bl _
  | exact Dp.non
  | ((with_reducible refine' Dp.tup ?h ?a); (case h => k_places); (case a => keq_hits))
  | ((with_reducible refine' Dp.lst ?h ?a); (case h => k_places); (case a => keq_hits)))
local macro_rules | `(tactic| keq_hits) => `(tactic| first
  | exact DpAll.nil
  | ((with_reducible refine' DpAll.cons ?x ?y); (case x => kbo_bools); (case y => keq_hits)))
local macro_rules | `(tactic| got_up) => `(tactic| first
  | exact rfl
  | (simp only [PyData.tuple.injEq, PyData.list.injEq, List.cons.injEq, PyData.int.injEq, and_true, true_and]; omega))

/-- an if whose test lays objects -/
local macro_rules | `(tactic| kpt_turns) => `(tactic| (with_reducible first | refine r_ifS ?_ | refine r_if ?_ | skip))

/-- an item of written ints at a drawn place -/
local macro_rules | `(tactic| ksw_less) => `(tactic| first
  | ((with_reducible refine' r_ixI ?h ?h0 ?h1 ?hP (fun z => ?_)); (case h => k_places); (case h0 => omega); (case h1 => (simp only [List.length]; omega)); (case hP => simp))
  | ((with_reducible refine' r_ixIT ?h ?h0 ?h1 ?hP (fun z => ?_)); (case h => k_places); (case h0 => omega); (case h1 => (simp only [List.length]; omega)); (case hP => simp)))

namespace Pr
open PySem
def subT : List (Str × List Str × List Str) := [("Happening", ["Happening"], ["kind", "place", "weight"]),
  ("Fit", ["Fit"], []),
  ("Any", ["Any", "Fit"], []),
  ("Named", ["Named", "Fit"], ["names"]),
  ("Kind", ["Kind", "Named", "Fit"], ["names"]),
  ("Place", ["Place", "Named", "Fit"], ["names"]),
  ("Least", ["Least", "Fit"], ["weight"]),
  ("Not", ["Not", "Fit"], ["fit"]),
  ("Several", ["Several", "Fit"], ["fits"]),
  ("Both", ["Both", "Several", "Fit"], ["fits"]),
  ("Either", ["Either", "Several", "Fit"], ["fits"])]
def excT : List (Str × List Str × List Str) := [("BellError", ["BellError"], []),
  ("NoClock", ["NoClock", "BellError"], []),
  ("NoHappening", ["NoHappening", "BellError"], []),
  ("NoFit", ["NoFit", "BellError"], []),
  ("NoWish", ["NoWish", "BellError"], []),
  ("NoRow", ["NoRow", "BellError"], []),
  ("NoText", ["NoText", "BellError"], ["line"])]
end Pr
namespace Pr
open PySem PySem.Spec PyProof.Rows L2 Vs
/-! ### the law's draws, as plain functions -/
def mix (c k : Int) : Int :=
  (((c + 7919 * k + 1) * 48271 % 2147483647) * (((c + 7919 * k + 1) * 48271 % 2147483647) / 1009 + 69621) % 2147483647) *
    ((((c + 7919 * k + 1) * 48271 % 2147483647) * (((c + 7919 * k + 1) * 48271 % 2147483647) / 1009 + 69621) % 2147483647) / 2003 + 40692 + k) % 2147483399
structure Wl where
  a : Int
  b : Int
  c : Int
  d : Int
abbrev Wl.o (w : Wl) : HO := .lst [.int w.a, .int w.b, .int w.c, .int w.d]
def drF (c d : Int) : Nat → Int
  | 0 => 0
  | n + 1 => drF c d n * 2147483399 + mix c (d + ((n + 1 : Nat) : Int))
def dv (w : Wl) (m : Int) : Int := if w.b = 0 ∧ 0 < w.a then w.a % m else drF w.c w.d (if 1000000 < m then 3 else 1) % m
def dn (w : Wl) (m : Int) : Wl := if w.b = 0 ∧ 0 < w.a then ⟨w.a / m, w.b, w.c, w.d⟩ else ⟨w.a, w.b, w.c, w.d + ((if 1000000 < m then 3 else 1 : Nat) : Int)⟩
theorem dv_lo (w : Wl) {m : Int} (h : 0 < m) : 0 ≤ dv w m := by
  unfold dv
  split
  · exact Int.emod_nonneg _ (by omega)
  · exact Int.emod_nonneg _ (by omega)
theorem dv_hi (w : Wl) {m : Int} (h : 0 < m) : dv w m < m := by
  unfold dv
  split
  · exact Int.emod_lt_of_pos _ h
  · exact Int.emod_lt_of_pos _ h
/-- what is drawn: a number from 0 on below m -/
def cellAt (ns : List Int) (k : Nat) : Int := ns.getD k 0
end Pr

namespace Pr
open PySem PySem.Spec PyProof.Rows L2 Vs He
/-! ### data on the heap -/
inductive Dt where
  | int (i : Int) | bl (b : Bool) | non | str (s : Str) | tup (xs : List Dt) | lst (xs : List Dt) | dct | obj (C : Str) (fs : List (Str × Dt))
/-- an own class of the table -/
def inT (C : Str) : Bool := (subT.lookup C).isSome
def isSub (C X : Str) : Bool := match subT.lookup C with
  | some z => decide (X ∈ z.1)
  | none => false
def clsB (K : PySem.W.Frag) (C : Addr) : Bool := PySem.W.plainGet K C Str.empty && (PySem.W.hasDictIn K C && (PySem.W.plainOver K C && decide (PySem.W.findIn K (.ref C) "__setattr__" = some (some (.builtin "object.__setattr__")))))
theorem clsB_ok {K : PySem.W.Frag} {C : Addr} (h : clsB K C = true) : Cls K C := by
  obtain ⟨h1, h⟩ := b2 h
  obtain ⟨h2, h⟩ := b2 h
  obtain ⟨h3, h4⟩ := b2 h
  exact ⟨h1, h2, h3, of_decide_eq_true h4⟩
def bTys : List String := ["int", "bool", "str", "NoneType", "tuple", "list", "dict"]
def hcB (K : PySem.W.Frag) : Bool := subT.all fun e => clsB K (ga K e.1) && (insB K (ga K e.1) && ((e.2.2.all fun f => decide (PySem.W.findIn K (.ref (ga K e.1)) f = some none)) &&
  ((bTys.all fun b => decide (PySem.W.kitOne K (.ref (ga K e.1)) (.type b) = some false) && decide (PySem.W.kitOne K (.type b) (.ref (ga K e.1)) = some false)) &&
  (subT.all fun x => decide (PySem.W.kitOne K (.ref (ga K e.1)) (.ref (ga K x.1)) = some (decide (x.1 ∈ e.2.1)))))))
structure HcE (K : PySem.W.Frag) (C : Str) (ss fs : List Str) : Prop where
  cls : Cls K (ga K C)
  ins : InsT K (ga K C)
  na : ∀ f ∈ fs, NoAttr K (ga K C) f
  nb : ∀ b ∈ bTys, PySem.W.kitOne K (.ref (ga K C)) (.type b) = some false ∧ PySem.W.kitOne K (.type b) (.ref (ga K C)) = some false
  sub : ∀ x ∈ subT, PySem.W.kitOne K (.ref (ga K C)) (.ref (ga K x.1)) = some (decide (x.1 ∈ ss))
abbrev Hc (K : PySem.W.Frag) : Prop := hcB K = true
theorem lookup_mem {α β : Type} [BEq α] [LawfulBEq α] {l : List (α × β)} {a : α} {b : β} (h : l.lookup a = some b) : (a, b) ∈ l := by
  induction l with
  | nil => cases h
  | cons x l ih =>
    obtain ⟨c, d⟩ := x
    by_cases e : a = c
    · subst e
      rw [List.lookup_cons] at h
      simp only [beq_self_eq_true] at h
      cases h
      exact List.mem_cons_self
    · rw [List.lookup_cons] at h
      have : (a == c) = false := by simpa using e
      rw [this] at h
      exact List.mem_cons_of_mem _ (ih h)
theorem Hc.e {K : PySem.W.Frag} (h : Hc K) {C : Str} {z : List Str × List Str} (m : subT.lookup C = some z) : HcE K C z.1 z.2 := by
  have h := List.all_eq_true.mp h _ (lookup_mem m)
  obtain ⟨h1, h⟩ := b2 h
  obtain ⟨h2, h⟩ := b2 h
  obtain ⟨h3, h⟩ := b2 h
  obtain ⟨h4, h5⟩ := b2 h
  have c := clsB_ok h1
  refine ⟨c, insB_ok c h2, fun f hf => (show PySem.W.findIn K (.ref (ga K C)) f = some none from of_decide_eq_true (List.all_eq_true.mp h3 f hf)), fun b hb => ?_, fun x hx => of_decide_eq_true (List.all_eq_true.mp h5 x hx)⟩
  obtain ⟨a1, a2⟩ := b2 (List.all_eq_true.mp h4 b hb)
  exact ⟨of_decide_eq_true a1, of_decide_eq_true a2⟩
theorem Hc.cls {K : PySem.W.Frag} (h : Hc K) {C : Str} (m : inT C = true) : Cls K (ga K C) := let ⟨_, e⟩ := Option.isSome_iff_exists.mp m; (h.e e).cls
theorem Hc.ins {K : PySem.W.Frag} (h : Hc K) {C : Str} (m : inT C = true) : InsT K (ga K C) := let ⟨_, e⟩ := Option.isSome_iff_exists.mp m; (h.e e).ins
/-- it has this field -/
def hasF (C f : Str) : Bool := match subT.lookup C with
  | some z => decide (f ∈ z.2)
  | none => false
theorem hasF_in {C f : Str} (m : hasF C f = true) : inT C = true := by
  unfold hasF at m
  unfold inT
  cases e : subT.lookup C with
  | none => rw [e] at m; cases m
  | some z => rfl
theorem Hc.na {K : PySem.W.Frag} (h : Hc K) {C f : Str} (m : hasF C f = true) : NoAttr K (ga K C) f := by
  unfold hasF at m
  cases e : subT.lookup C with
  | none => rw [e] at m; cases m
  | some z =>
    rw [e] at m
    exact (h.e e).na f (of_decide_eq_true m)
/-! ### what stands for which data -/
mutual
inductive At (K : PySem.W.Frag) (H : Hp) : V → Dt → Prop
  | int (i : Int) : At K H (.int i) (.int i)
  | bl (b : Bool) : At K H (.bl b) (.bl b)
  | non : At K H .non .non
  | str (s : Str) : At K H (.str s) (.str s)
  | tup {a : Addr} {vs : List V} {ds : List Dt} (h : H a = some (.tup vs)) (l : AtL K H vs ds) : At K H (.ref a) (.tup ds)
  | lst {a : Addr} {vs : List V} {ds : List Dt} (h : H a = some (.lst vs)) (l : AtL K H vs ds) : At K H (.ref a) (.lst ds)
  | dct {a : Addr} (h : H a = some (.dK [])) : At K H (.ref a) .dct
  | obj {a dx : Addr} {C : Str} {gs : List (Str × V)} {fs : List (Str × Dt)} (h : H a = some (.ins (ga K C) dx gs)) (m : inT C = true) (l : AtF K H gs fs) : At K H (.ref a) (.obj C fs)
inductive AtL (K : PySem.W.Frag) (H : Hp) : List V → List Dt → Prop
  | nil : AtL K H [] []
  | cons {v : V} {d : Dt} {vs : List V} {ds : List Dt} (h : At K H v d) (l : AtL K H vs ds) : AtL K H (v :: vs) (d :: ds)
inductive AtF (K : PySem.W.Frag) (H : Hp) : List (Str × V) → List (Str × Dt) → Prop
  | nil : AtF K H [] []
  | cons {f : Str} {v : V} {d : Dt} {gs : List (Str × V)} {fs : List (Str × Dt)} (h : At K H v d) (l : AtF K H gs fs) : AtF K H ((f, v) :: gs) ((f, d) :: fs)
end
mutual
theorem At.same {K : PySem.W.Frag} {H H' : Hp} (s : Same H H') : ∀ {v : V} {d : Dt}, At K H v d → At K H' v d
  | _, _, .int i => .int i
  | _, _, .bl b => .bl b
  | _, _, .non => .non
  | _, _, .str z => .str z
  | _, _, .tup h l => .tup (s _ _ h) (l.same s)
  | _, _, .lst h l => .lst (s _ _ h) (l.same s)
  | _, _, .dct h => .dct (s _ _ h)
  | _, _, .obj h m l => .obj (s _ _ h) m (l.same s)
theorem AtL.same {K : PySem.W.Frag} {H H' : Hp} (s : Same H H') : ∀ {v : List V} {d : List Dt}, AtL K H v d → AtL K H' v d
  | _, _, .nil => .nil
  | _, _, .cons h l => .cons (h.same s) (l.same s)
theorem AtF.same {K : PySem.W.Frag} {H H' : Hp} (s : Same H H') : ∀ {v : List (Str × V)} {d : List (Str × Dt)}, AtF K H v d → AtF K H' v d
  | _, _, .nil => .nil
  | _, _, .cons h l => .cons (h.same s) (l.same s)
end
theorem AtL.len {K : PySem.W.Frag} {H : Hp} : ∀ {vs : List V} {ds : List Dt}, AtL K H vs ds → vs.length = ds.length
  | _, _, .nil => rfl
  | _, _, .cons _ l => congrArg (· + 1) l.len
theorem AtL.at_ {K : PySem.W.Frag} {H : Hp} : ∀ {vs : List V} {ds : List Dt}, AtL K H vs ds → ∀ {i : Nat} {v : V}, vs[i]? = some v → ∃ d, ds[i]? = some d ∧ At K H v d
  | _, _, .nil, i, v, e => by simp at e
  | _, _, .cons h l, 0, v, e => by
    simp only [List.getElem?_cons_zero, Option.some.injEq] at e
    subst e
    exact ⟨_, by simp, h⟩
  | _, _, .cons h l, i + 1, v, e => by
    simp only [List.getElem?_cons_succ] at e ⊢
    exact l.at_ e
theorem AtL.of_at {K : PySem.W.Frag} {H : Hp} : ∀ {vs : List V} {ds : List Dt}, AtL K H vs ds → ∀ {i : Nat} {d : Dt}, ds[i]? = some d → ∃ v, vs[i]? = some v ∧ At K H v d
  | _, _, .nil, i, v, e => by simp at e
  | _, _, .cons h l, 0, v, e => by
    simp only [List.getElem?_cons_zero, Option.some.injEq] at e
    subst e
    exact ⟨_, by simp, h⟩
  | _, _, .cons h l, i + 1, v, e => by
    simp only [List.getElem?_cons_succ] at e ⊢
    exact l.of_at e
theorem AtL.app {K : PySem.W.Frag} {H : Hp} : ∀ {vs us : List V} {ds es : List Dt}, AtL K H vs ds → AtL K H us es → AtL K H (vs ++ us) (ds ++ es)
  | _, _, _, _, .nil, k => k
  | _, _, _, _, .cons h l, k => .cons h (l.app k)
theorem AtL.strs {K : PySem.W.Frag} {H : Hp} : ∀ {zs : List Str}, AtL K H (zs.map V.str) (zs.map Dt.str)
  | [] => .nil
  | _ :: _ => .cons (.str _) AtL.strs
theorem AtL.ints {K : PySem.W.Frag} {H : Hp} : ∀ {zs : List Int}, AtL K H (zs.map V.int) (zs.map Dt.int)
  | [] => .nil
  | _ :: _ => .cons (.int _) AtL.ints
theorem AtF.look {K : PySem.W.Frag} {H : Hp} : ∀ {gs : List (Str × V)} {fs : List (Str × Dt)}, AtF K H gs fs → ∀ {f : Str} {d : Dt}, fs.lookup f = some d → ∃ v, gs.lookup f = some v ∧ At K H v d
  | _, _, .nil, f, d, e => by cases e
  | _, _, .cons (f := g) h l, f, d, e => by
    rw [List.lookup_cons] at e ⊢
    cases hb : f == g with
    | true => rw [hb] at e; cases e; exact ⟨_, rfl, h⟩
    | false => rw [hb] at e; exact l.look e
theorem AtF.none {K : PySem.W.Frag} {H : Hp} : ∀ {gs : List (Str × V)} {fs : List (Str × Dt)}, AtF K H gs fs → ∀ {f : Str}, fs.lookup f = none → gs.lookup f = none
  | _, _, .nil, f, e => rfl
  | _, _, .cons (f := g) h l, f, e => by
    rw [List.lookup_cons] at e ⊢
    cases hb : f == g with
    | true => rw [hb] at e; cases e
    | false => rw [hb] at e; exact l.none e
/-! ### what isinstance tells -/
def Dt.tv (K : PySem.W.Frag) : Dt → Value
  | .int _ => .type "int"
  | .bl _ => .type "bool"
  | .non => .type "NoneType"
  | .str _ => .type "str"
  | .tup _ => .type "tuple"
  | .lst _ => .type "list"
  | .dct => .type "dict"
  | .obj C _ => .ref (ga K C)
def Dt.isA (X : Str) : Dt → Bool
  | .obj C _ => isSub C X
  | _ => false
theorem isA_obj {C X : Str} {fs : List (Str × Dt)} {b : Bool} (h : isSub C X = b) : Dt.isA X (.obj C fs) = b := h
theorem At.tyx {K : PySem.W.Frag} (hc : Hc K) {H : Hp} {v : V} {d : Dt} (h : At K H v d) : TyX K H v (d.tv K) := by
  cases h with
  | int i => exact .base (.int i)
  | bl b => exact .base (.bl b)
  | non => exact .base .non
  | str z => exact .base (.str z)
  | tup h _ => exact .base (.tup h)
  | lst h _ => exact .base (.lst h)
  | dct h => exact .base (.dK h)
  | obj h m _ => exact (hc.ins m).ty h
theorem isA_ok {K : PySem.W.Frag} (hc : Hc K) {H : Hp} {v : V} {d : Dt} (h : At K H v d) {X : Str} (m : inT X = true) : PySem.W.kitOne K (d.tv K) (.ref (ga K X)) = some (d.isA X) := by
  obtain ⟨x, hx⟩ := Option.isSome_iff_exists.mp m
  have nb := (hc.e hx).nb
  cases h with
  | int i => exact (nb "int" (by decide)).2
  | bl b => exact (nb "bool" (by decide)).2
  | non => exact (nb "NoneType" (by decide)).2
  | str z => exact (nb "str" (by decide)).2
  | tup h _ => exact (nb "tuple" (by decide)).2
  | lst h _ => exact (nb "list" (by decide)).2
  | dct h => exact (nb "dict" (by decide)).2
  | obj h m _ =>
    obtain ⟨z, hz⟩ := Option.isSome_iff_exists.mp m
    have s := (hc.e hz).sub (X, x) (lookup_mem hx)
    show _ = some (isSub _ X)
    unfold isSub
    rw [hz]
    exact s
def Dt.isB (b : String) : Dt → Bool
  | .int _ => decide (b = "int")
  | .bl _ => decide (b = "bool") || decide (b = "int")
  | .non => decide (b = "NoneType")
  | .str _ => decide (b = "str")
  | .tup _ => decide (b = "tuple")
  | .lst _ => decide (b = "list")
  | .dct => decide (b = "dict")
  | .obj _ _ => false
theorem kitBs : ∀ a ∈ bTys, ∀ b ∈ bTys, PySem.W.kitMeta b = true → kitB a b = some (decide (b = a) || (decide (a = "bool") && decide (b = "int"))) := by decide +kernel
theorem isB_ok {K : PySem.W.Frag} (hc : Hc K) {H : Hp} {v : V} {d : Dt} (h : At K H v d) {b : String} (m : b ∈ bTys) (mt : PySem.W.kitMeta b = true) : PySem.W.kitOne K (d.tv K) (.type b) = some (d.isB b) := by
  cases h with
  | int i => exact kit_ty ((kitBs "int" (by decide) b m mt).trans (by simp [Dt.isB]))
  | bl c => exact kit_ty ((kitBs "bool" (by decide) b m mt).trans (by simp [Dt.isB]))
  | non => exact kit_ty ((kitBs "NoneType" (by decide) b m mt).trans (by simp [Dt.isB]))
  | str z => exact kit_ty ((kitBs "str" (by decide) b m mt).trans (by simp [Dt.isB]))
  | tup h _ => exact kit_ty ((kitBs "tuple" (by decide) b m mt).trans (by simp [Dt.isB]))
  | lst h _ => exact kit_ty ((kitBs "list" (by decide) b m mt).trans (by simp [Dt.isB]))
  | dct h => exact kit_ty ((kitBs "dict" (by decide) b m mt).trans (by simp [Dt.isB]))
  | obj h m2 _ =>
    obtain ⟨z, hz⟩ := Option.isSome_iff_exists.mp m2
    exact ((hc.e hz).nb b m).1
section
variable {K : PySem.W.Frag} {H : Hp} {Q : VK} {v : V} {d : Dt}
theorem r_isA (hc : Hc K) {X : Str} (h : At K H v d) (m : inT X = true) (q : Q (.bl (d.isA X)) H) : rIsi K [v, .ref (ga K X)] H Q := r_isiG (h.tyx hc) (.own _) (isA_ok hc h m) q
theorem r_isB (hc : Hc K) {b : String} (h : At K H v d) (m : b ∈ bTys) (mt : PySem.W.kitMeta b = true) (q : Q (.bl (d.isB b)) H) : rIsi K [v, .ty b] H Q := r_isiG (h.tyx hc) (.ty _) (isB_ok hc h m mt) q
theorem r_isAo (hc : Hc K) {C X : Str} {fs : List (Str × Dt)} {b : Bool} (h : At K H v (.obj C fs)) (m : inT X = true) (e : isSub C X = b) (q : Q (.bl b) H) : rIsi K [v, .ref (ga K X)] H Q := by
  refine r_isA hc h m ?_
  show Q (.bl (isSub C X)) H
  rw [e]; exact q
theorem r_isBe (hc : Hc K) {b : String} {c : Bool} (h : At K H v d) (m : b ∈ bTys) (mt : PySem.W.kitMeta b = true) (e : d.isB b = c) (q : Q (.bl c) H) : rIsi K [v, .ty b] H Q := r_isB hc h m mt (e ▸ q)
theorem r_isAe (hc : Hc K) {X : Str} {c : Bool} (h : At K H v d) (m : inT X = true) (e : d.isA X = c) (q : Q (.bl c) H) : rIsi K [v, .ref (ga K X)] H Q := r_isA hc h m (e ▸ q)
/-- o.f of data -/
theorem r_fldD (hc : Hc K) {C f : Str} {fs : List (Str × Dt)} (h : At K H v (.obj C fs)) (m : hasF C f = true) (l : fs.lookup f = some d) (q : ∀ u, At K H u d → Q u H) : rFld K f v H Q := by
  cases h with
  | obj h _ l2 =>
    obtain ⟨u, hu, a⟩ := l2.look l
    exact r_fldI h (hc.cls (hasF_in m)) (hc.na m) hu (q u a)
end
/-! ### own exceptions -/
def inX (C : Str) : Bool := (excT.lookup C).isSome
def isSubX (C X : Str) : Bool := match excT.lookup C with
  | some z => decide (X ∈ z.1)
  | none => false
def xcB (K : PySem.W.Frag) : Bool := excT.all fun e => excB K (ga K e.1) && (decide (PySem.W.kitOne K (.ref (ga K e.1)) (.type "ValueError") = some true) &&
  ((excT.all fun x => decide (PySem.W.kitOne K (.ref (ga K e.1)) (.ref (ga K x.1)) = some (decide (x.1 ∈ e.2.1))) && decide (PySem.W.exmOne K (.ref (ga K e.1)) (.ref (ga K x.1)) = some (decide (x.1 ∈ e.2.1)))) &&
  ((e.2.2.all fun f => decide (PySem.W.findIn K (.ref (ga K e.1)) f = some none)) && (e.2.2.isEmpty || oexB K (ga K e.1) (ma K (ga K e.1) "__init__")))))
abbrev Xc (K : PySem.W.Frag) : Prop := xcB K = true
structure XcE (K : PySem.W.Frag) (C : Str) (ss fs : List Str) : Prop where
  exc : ExcC K (ga K C)
  ve : PySem.W.kitOne K (.ref (ga K C)) (.type "ValueError") = some true
  sub : ∀ x ∈ excT, PySem.W.kitOne K (.ref (ga K C)) (.ref (ga K x.1)) = some (decide (x.1 ∈ ss)) ∧ PySem.W.exmOne K (.ref (ga K C)) (.ref (ga K x.1)) = some (decide (x.1 ∈ ss))
  na : ∀ f ∈ fs, PySem.W.findIn K (.ref (ga K C)) f = some none
  oex : fs.isEmpty = false → OexD K (ga K C) (ma K (ga K C) "__init__")
theorem Xc.e {K : PySem.W.Frag} (h : Xc K) {C : Str} {z : List Str × List Str} (m : excT.lookup C = some z) : XcE K C z.1 z.2 := by
  have h := List.all_eq_true.mp h _ (lookup_mem m)
  obtain ⟨h1, h⟩ := b2 h
  obtain ⟨h2, h⟩ := b2 h
  obtain ⟨h3, h⟩ := b2 h
  obtain ⟨h4, h5⟩ := b2 h
  refine ⟨excB_ok h1, of_decide_eq_true h2, fun x hx => ?_, fun f hf => of_decide_eq_true (List.all_eq_true.mp h4 f hf), fun ze => by
    have h5 : (z.2.isEmpty || oexB K (ga K C) (ma K (ga K C) "__init__")) = true := h5
    rw [ze, Bool.false_or] at h5
    exact oexB_ok h5⟩
  obtain ⟨a1, a2⟩ := b2 (List.all_eq_true.mp h3 x hx)
  exact ⟨of_decide_eq_true a1, of_decide_eq_true a2⟩
theorem Xc.exc {K : PySem.W.Frag} (h : Xc K) {C : Str} (m : inX C = true) : ExcC K (ga K C) := let ⟨_, e⟩ := Option.isSome_iff_exists.mp m; (h.e e).exc
theorem Xc.ve {K : PySem.W.Frag} (h : Xc K) {C : Str} (m : inX C = true) : PySem.W.kitOne K (.ref (ga K C)) (.type "ValueError") = some true := let ⟨_, e⟩ := Option.isSome_iff_exists.mp m; (h.e e).ve
theorem Xc.sub {K : PySem.W.Frag} (h : Xc K) {C X : Str} (m : inX C = true) (n : inX X = true) : PySem.W.kitOne K (.ref (ga K C)) (.ref (ga K X)) = some (isSubX C X) ∧ PySem.W.exmOne K (.ref (ga K C)) (.ref (ga K X)) = some (isSubX C X) := by
  obtain ⟨z, e⟩ := Option.isSome_iff_exists.mp m
  obtain ⟨x, e2⟩ := Option.isSome_iff_exists.mp n
  unfold isSubX
  rw [e]
  exact (h.e e).sub (X, x) (lookup_mem e2)
def hasXF (C f : Str) : Bool := match excT.lookup C with
  | some z => decide (f ∈ z.2)
  | none => false
theorem Xc.na {K : PySem.W.Frag} (h : Xc K) {C f : Str} (m : hasXF C f = true) : PySem.W.findIn K (.ref (ga K C)) f = some none := by
  unfold hasXF at m
  cases e : excT.lookup C with
  | none => rw [e] at m; cases m
  | some z =>
    rw [e] at m
    exact (h.e e).na f (of_decide_eq_true m)
theorem xc_na {K : PySem.W.Frag} (C f : Str) (h : Xc K) (m : hasXF C f = true := by decide +kernel) : PySem.W.findIn K (.ref (ga K C)) f = some none := h.na m
def hasXI (C : Str) : Bool := match excT.lookup C with
  | some z => !z.2.isEmpty
  | none => false
theorem xc_oex {K : PySem.W.Frag} (C : Str) (h : Xc K) (m : hasXI C = true := by decide +kernel) : OexD K (ga K C) (ma K (ga K C) "__init__") := by
  unfold hasXI at m
  cases e : excT.lookup C with
  | none => rw [e] at m; cases m
  | some z =>
    rw [e] at m
    exact (h.e e).oex (by simpa using m)
theorem xc_xf {K : PySem.W.Frag} (C : Str) (h : Xc K) (m : inX C = true := by decide +kernel) : XfC K (ga K C) := let e := h.exc m; ⟨e.hg, e.hk, e.hs, e.hd⟩
theorem bb0 {K : PySem.W.Frag} {fd : FuncData} {ps : List Str} {ds : List Value} (v : Vals [] ds) (b : Binds K fd ps ds) : Binds K fd ps [] := by cases v; exact b
/-- a written tuple of own exceptions -/
inductive XL (K : PySem.W.Frag) : List V → List Str → Prop
  | nil : XL K [] []
  | cons {X : Str} {cs : List V} {ns : List Str} (m : inX X = true) (l : XL K cs ns) : XL K (.ref (ga K X) :: cs) (X :: ns)
theorem XL.ok {K : PySem.W.Frag} (h : Xc K) {C : Str} (m : inX C = true) : ∀ {cs : List V} {ns : List Str}, XL K cs ns → ∃ us, Paired ClsV cs us ∧ PySem.W.kitAny K (.ref (ga K C)) us = some (ns.any (isSubX C))
  | _, _, .nil => ⟨[], .nil, rfl⟩
  | _, _, .cons (X := X) n l => by
    obtain ⟨us, p, e⟩ := l.ok h m
    refine ⟨_ :: us, .cons (.own _) p, ?_⟩
    simp only [PySem.W.kitAny]
    rw [(h.sub m n).1, List.any_cons]
    cases isSubX C X with
    | true => rfl
    | false => exact e
section
variable {K : PySem.W.Frag} {H : Hp} {Q : VK}
theorem r_isXE (hx : Xc K) {C X : Str} {a : Addr} {d : Option Addr} {b : Bool} (m : inX C = true) (n : inX X = true) (hd : XDok H d) (e : isSubX C X = b) (q : Q (.bl b) H) : rIsY K (.ref (ga K C)) d a [.ref a, .ref (ga K X)] H Q := ⟨_, _, _, b, rfl, rfl, hd, hx.exc m, .own _, e ▸ (hx.sub m n).1, q⟩
theorem r_isXV (hx : Xc K) {C : Str} {a : Addr} {d : Option Addr} (m : inX C = true) (hd : XDok H d) (q : Q (.bl true) H) : rIsY K (.ref (ga K C)) d a [.ref a, .ty "ValueError"] H Q := ⟨_, _, _, true, rfl, rfl, hd, hx.exc m, .ty _, hx.ve m, q⟩
theorem r_isXTE (hx : Xc K) {C : Str} {a tp : Addr} {d : Option Addr} {cs : List V} {ns : List Str} {b : Bool} (m : inX C = true) (hd : XDok H d) (ht : H tp = some (.tup cs)) (l : XL K cs ns) (e : ns.any (isSubX C) = b) (q : Q (.bl b) H) : rIsYT K (.ref (ga K C)) d a [.ref a, .ref tp] H Q := by
  obtain ⟨us, p, k⟩ := l.ok hx m
  exact ⟨tp, cs, us, _, b, rfl, ht, rfl, hd, hx.exc m, p, e ▸ k, q⟩
theorem r_caughtE (hx : Xc K) {σ : L2.St} {nx bk ct : L2.St → Hp → Prop} {rt : VK} {C X : Str} {d : Option Addr} {i : Nat} {ts : Addr → Value → Option Addr → TS} {Wout : WX} (m : inX C = true) (n : inX X = true) (e : isSubX C X = true)
    (q : ∀ a, H a = none → ts a (.ref (ga K C)) d (Ends.mk (fun σ' H' => nx (σ'.set i none) H') rt (fun σ' H' => bk (σ'.set i none) H') (fun σ' H' => ct (σ'.set i none) H')) (σ.set i (some (.ref a))) H) :
    WE (wAs K (.ref (ga K X)) i ts Wout (Ends.mk nx rt bk ct)) σ (.ref (ga K C)) d H := r_caught ((hx.sub m n).2.trans (by rw [e])) q
end
/-! ### what the program asks of data -/
def Dt.whole : Dt → Bool
  | .int _ => true
  | _ => false
def Dt.wt : Dt → Bool
  | .int i => decide (0 ≤ i)
  | _ => false
def Dt.short : Dt → Prop
  | .str z => z.length ≤ 100000
  | _ => True
def lettersS : Str := "abcdefghijklmnopqrstuvwxyz"
/-- one to eight small letters -/
def nameS (z : Str) : Bool := !decide (z = "") && (decide (z.length ≤ 8) && z.cps.toList.all fun c => decide (c ∈ lettersS.cps.toList))
def Dt.name : Dt → Bool
  | .str z => nameS z
  | _ => false
theorem letters_l : lettersS.cps.toList = [97, 98, 99, 100, 101, 102, 103, 104, 105, 106, 107, 108, 109, 110, 111, 112, 113, 114, 115, 116, 117, 118, 119, 120, 121, 122] := by decide +kernel
theorem letter_iff {c : Nat} : c ∈ lettersS.cps.toList ↔ 97 ≤ c ∧ c ≤ 122 := by
  rw [letters_l]
  simp only [List.mem_cons, List.not_mem_nil, or_false]
  omega
theorem str_ext {x y : Str} (h : x.cps.toList = y.cps.toList) : x = y := by
  cases x; cases y
  simp only at h
  congr 1
  exact Array.ext' h
theorem len_l {z : Str} : z.length = z.cps.toList.length := by
  show z.cps.size = _
  simp
theorem nameS_iff {z : Str} : nameS z = true ↔ (1 ≤ z.cps.toList.length ∧ z.cps.toList.length ≤ 8) ∧ ∀ c ∈ z.cps.toList, 97 ≤ c ∧ c ≤ 122 := by
  unfold nameS
  rw [Bool.and_eq_true, Bool.and_eq_true, List.all_eq_true, decide_eq_true_eq, Bool.not_eq_true', decide_eq_false_iff_not, len_l]
  constructor
  · rintro ⟨h1, h2, h3⟩
    refine ⟨⟨?_, h2⟩, fun c hc => letter_iff.mp (of_decide_eq_true (h3 c hc))⟩
    cases hl : z.cps.toList with
    | nil => exact absurd (str_ext (by rw [hl]; rfl)) h1
    | cons a l => simp
  · rintro ⟨⟨h1, h2⟩, h3⟩
    refine ⟨fun e => ?_, h2, fun c hc => decide_eq_true (letter_iff.mpr (h3 c hc))⟩
    rw [e] at h1
    exact absurd h1 (by decide)
theorem name_len {z : Str} (h : nameS z = true) : 1 ≤ z.length ∧ z.length ≤ 8 := by rw [len_l]; exact (nameS_iff.mp h).1
theorem name_no {z : Str} (h : ¬ ((1 ≤ z.length ∧ z.length ≤ 8) ∧ ∀ c ∈ z.cps.toList, 97 ≤ c ∧ c ≤ 122)) : nameS z = false := by
  cases e : nameS z with
  | false => rfl
  | true => rw [len_l] at h; exact absurd (nameS_iff.mp e) h
theorem name_bad {z : Str} {c : Nat} (h : c ∈ z.cps.toList) (hc : c < 97 ∨ 122 < c) : nameS z = false := name_no fun k => by have := k.2 c h; omega
theorem name_long {z : Str} (h : 8 < z.length) : nameS z = false := name_no fun k => by omega
theorem app_l {x y : Str} : (x ++ y).cps.toList = x.cps.toList ++ y.cps.toList := by
  show (x.cps ++ y.cps).toList = _
  simp
theorem cutS_l {z : Str} {lo hi : Option Int} : (cutS z lo hi).cps.toList = List.take (HT.sIx z.length z.length hi - HT.sIx z.length 0 lo) (List.drop (HT.sIx z.length 0 lo) z.cps.toList) := by
  unfold cutS
  simp
theorem cutS_mem {z : Str} {lo hi : Option Int} {c : Nat} (h : c ∈ (cutS z lo hi).cps.toList) : c ∈ z.cps.toList := by
  rw [cutS_l] at h
  exact List.mem_of_mem_drop (List.mem_of_mem_take h)
theorem cutS_len {z : Str} {lo hi : Option Int} : (cutS z lo hi).length ≤ z.length := by
  rw [len_l, len_l, cutS_l, List.length_take, List.length_drop]
  omega
theorem app_len {x y : Str} : (x ++ y).length = x.length + y.length := by rw [len_l, app_l, List.length_append, ← len_l, ← len_l]
theorem odd_cat {x y : Str} {c : Nat} (h : c ∈ x.cps.toList ∨ c ∈ y.cps.toList) (hc : c < 97 ∨ 122 < c) : nameS (x ++ y) = false := name_bad (by rw [app_l]; exact List.mem_append.mpr h) hc
theorem name_append {x y : Str} (h : 1 ≤ x.length + y.length) (h8 : x.length + y.length ≤ 8) (hx : ∀ c ∈ x.cps.toList, 97 ≤ c ∧ c ≤ 122) (hy : ∀ c ∈ y.cps.toList, 97 ≤ c ∧ c ≤ 122) : nameS (x ++ y) = true := by
  rw [nameS_iff, ← len_l, app_len, app_l]
  exact ⟨⟨h, h8⟩, fun c hc => (List.mem_append.mp hc).elim (hx c) (hy c)⟩
theorem name_ok {z : Str} (h : nameS z = true) : PyData.strOk z = true := by
  unfold PyData.strOk
  rw [← Array.all_toList, List.all_eq_true]
  intro c hc
  have := (nameS_iff.mp h).2 c hc
  exact decide_eq_true (by omega)
/-- no name -/
def OddN (d : Dt) : Prop := d.name = false ∧ d.short
theorem oddN_lit {z : Str} (h : nameS z = false) (l : z.length ≤ 100000) : OddN (.str z) := ⟨h, l⟩
/-! ### lists of names -/
def strsOf : List Dt → List Str
  | [] => []
  | .str z :: r => z :: strsOf r
  | _ :: r => strsOf r
def Dt.names : Dt → Bool
  | .lst ds => ds.all Dt.name && decide ((strsOf ds).Nodup)
  | _ => false
def Dt.shortL : Dt → Prop
  | .lst ds => ds.length ≤ 1000 ∧ ∀ d ∈ ds, d.short
  | _ => True
theorem strsOf_map {zs : List Str} : strsOf (zs.map Dt.str) = zs := by
  induction zs with
  | nil => rfl
  | cons z zs ih => show z :: strsOf _ = _; rw [ih]
theorem names_strs : ∀ {ds : List Dt}, ds.all Dt.name = true → ds = (strsOf ds).map Dt.str ∧ ∀ z ∈ strsOf ds, nameS z = true
  | [], _ => ⟨rfl, fun z hz => by cases hz⟩
  | d :: ds, h => by
    rw [List.all_cons, Bool.and_eq_true] at h
    obtain ⟨e, n⟩ := names_strs h.2
    cases d with
    | str z =>
      refine ⟨?_, fun y hy => ?_⟩
      · show Dt.str z :: ds = Dt.str z :: (strsOf ds).map Dt.str
        rw [← e]
      · rcases List.mem_cons.mp (show y ∈ z :: strsOf ds from hy) with rfl | hy
        · exact h.1
        · exact n y hy
    | _ => exact absurd h.1 Bool.false_ne_true
theorem AtL.strs_of {K : PySem.W.Frag} {H : Hp} : ∀ {zs : List Str} {vs : List V}, AtL K H vs (zs.map Dt.str) → vs = zs.map V.str
  | [], _, .nil => rfl
  | z :: zs, _, .cons h l => by
    cases h
    rw [AtL.strs_of l]; rfl
theorem AtL.ints_of {K : PySem.W.Frag} {H : Hp} : ∀ {zs : List Int} {vs : List V}, AtL K H vs (zs.map Dt.int) → vs = zs.map V.int
  | [], _, .nil => rfl
  | z :: zs, _, .cons h l => by
    cases h
    rw [AtL.ints_of l]; rfl
theorem names_all {zs : List Str} (h : ∀ z ∈ zs, nameS z = true) : (zs.map Dt.str).all Dt.name = true := by
  rw [List.all_map, List.all_eq_true]
  exact h
theorem names_ok {zs : List Str} (h : ∀ z ∈ zs, nameS z = true) (d : zs.Nodup) : (Dt.lst (zs.map Dt.str)).names = true := by
  show ((zs.map Dt.str).all Dt.name && decide ((strsOf (zs.map Dt.str)).Nodup)) = true
  rw [names_all h, strsOf_map, decide_eq_true d]; rfl
theorem shortL_names {zs : List Str} (l : zs.length ≤ 1000) (h : ∀ z ∈ zs, nameS z = true) : (Dt.lst (zs.map Dt.str)).shortL := ⟨by rw [List.length_map]; exact l, fun d hd => by
  obtain ⟨z, hz, rfl⟩ := List.mem_map.mp hd
  exact Nat.le_trans (name_len (h z hz)).2 (by decide)⟩
theorem inV_strs {z : Str} : ∀ {zs : List Str}, inV (.str z) (zs.map V.str) = decide (z ∈ zs)
  | [] => by simp [inV]
  | y :: zs => by
    have ih := inV_strs (z := z) (zs := zs)
    unfold inV at ih ⊢
    rw [List.map_cons, List.any_cons, ih]
    by_cases h : y = z
    · subst h
      simp [eqV]
    · have h2 : z ≠ y := Ne.symm h
      have e : eqV (.str y) (.str z) = false := by simp [eqV, h]
      rw [e, Bool.false_or]
      simp [h2]
theorem flat_strs : ∀ {zs : List Str}, (zs.map V.str).all flatV = true
  | [] => rfl
  | _ :: zs => by rw [List.map_cons, List.all_cons, flat_strs]; rfl
theorem r_inStr {K : PySem.W.Frag} {H : Hp} {Q : VK} {p : Addr} {z : Str} {zs : List Str} (h : SqL K H p (zs.map V.str) ∨ SqT K H p (zs.map V.str)) (q : Q (.bl (decide (z ∈ zs))) H) : rIn K false (.str z) (.ref p) H Q :=
  ⟨p, _, rfl, h, rfl, flat_strs, by rw [inV_strs]; exact q⟩
theorem r_notInStr {K : PySem.W.Frag} {H : Hp} {Q : VK} {p : Addr} {z : Str} {zs : List Str} (h : SqL K H p (zs.map V.str) ∨ SqT K H p (zs.map V.str)) (q : Q (.bl (!decide (z ∈ zs))) H) : rIn K true (.str z) (.ref p) H Q :=
  ⟨p, _, rfl, h, rfl, flat_strs, by rw [inV_strs]; exact q⟩
def Dt.namesN (d : Dt) : Bool := d.names && match d with
  | .lst [] => false
  | _ => true
def Dt.fits2 : Dt → Bool
  | .lst ds => decide (2 ≤ ds.length) && ds.all (Dt.isA "Fit")
  | _ => false
def Dt.few : Dt → Prop
  | .lst ds => ds.length ≤ 1000
  | _ => True
/-! lists of texts compared -/
theorem dpAll_strs {K : PySem.W.Frag} {H : Hp} : ∀ {zs : List Str}, DpAll K H (zs.map V.str) (zs.map PyData.str)
  | [] => .nil
  | _ :: _ => .cons (.str _) dpAll_strs
theorem dpAll_ints {K : PySem.W.Frag} {H : Hp} : ∀ {zs : List Int}, DpAll K H (zs.map V.int) (zs.map PyData.int)
  | [] => .nil
  | _ :: _ => .cons (.int _) dpAll_ints
theorem dpAll_bls {K : PySem.W.Frag} {H : Hp} : ∀ {zs : List Bool}, DpAll K H (zs.map V.bl) (zs.map PyData.bool)
  | [] => .nil
  | _ :: _ => .cons (.bl _) dpAll_bls
theorem shaped_strs {zs : List Str} (h : ∀ z ∈ zs, PyData.strOk z = true) : SeqAt.shaped (.list (zs.map PyData.str)) = true := by
  have e : ∀ (zs : List Str), (∀ z ∈ zs, PyData.strOk z = true) → PyData.canLayAll0 (zs.map PyData.str) = true ∧ PyData.depthAll (zs.map PyData.str) = 0 := by
    intro zs
    induction zs with
    | nil => intro _; exact ⟨by simp [PyData.canLayAll0], by simp [PyData.depthAll]⟩
    | cons z zs ih =>
      intro h
      obtain ⟨a, b⟩ := ih fun y hy => h y (List.mem_cons_of_mem _ hy)
      exact ⟨by simp [PyData.canLayAll0, PyData.canLay0, a, h z List.mem_cons_self], by simp [PyData.depthAll, PyData.depth, b]⟩
  simp [SeqAt.shaped, PyData.canLay0, PyData.depth, (e zs h).1, (e zs h).2]
theorem shaped_ints {zs : List Int} : SeqAt.shaped (.list (zs.map PyData.int)) = true := by
  have e : ∀ (zs : List Int), PyData.canLayAll0 (zs.map PyData.int) = true ∧ PyData.depthAll (zs.map PyData.int) = 0 := by
    intro zs
    induction zs with
    | nil => exact ⟨by simp [PyData.canLayAll0], by simp [PyData.depthAll]⟩
    | cons z zs ih => exact ⟨by simp [PyData.canLayAll0, PyData.canLay0, ih.1], by simp [PyData.depthAll, PyData.depth, ih.2]⟩
  simp [SeqAt.shaped, PyData.canLay0, PyData.depth, (e zs).1, (e zs).2]
theorem shaped_bls {zs : List Bool} : SeqAt.shaped (.list (zs.map PyData.bool)) = true := by
  have e : ∀ (zs : List Bool), PyData.canLayAll0 (zs.map PyData.bool) = true ∧ PyData.depthAll (zs.map PyData.bool) = 0 := by
    intro zs
    induction zs with
    | nil => exact ⟨by simp [PyData.canLayAll0], by simp [PyData.depthAll]⟩
    | cons z zs ih => exact ⟨by simp [PyData.canLayAll0, PyData.canLay0, ih.1], by simp [PyData.depthAll, PyData.depth, ih.2]⟩
  simp [SeqAt.shaped, PyData.canLay0, PyData.depth, (e zs).1, (e zs).2]
theorem eqv_strs : ∀ {zs ws : List Str}, PyData.eqvAll (zs.map PyData.str) (ws.map PyData.str) = decide (zs = ws)
  | [], [] => by simp [PyData.eqvAll]
  | [], _ :: _ => by simp [PyData.eqvAll]
  | _ :: _, [] => by simp [PyData.eqvAll]
  | z :: zs, w :: ws => by
    simp only [List.map_cons, PyData.eqvAll, PyData.eqv, eqv_strs]
    by_cases h : z = w <;> simp [h]
section
variable {K : PySem.W.Frag} {H : Hp} {Q : VK} {a b : Addr} {zs ws : List Str}
theorem r_eqStrs (h : H a = some (.lst (zs.map V.str))) (k : H b = some (.lst (ws.map V.str))) (nz : ∀ z ∈ zs, nameS z = true) (nw : ∀ z ∈ ws, nameS z = true) (q : Q (.bl (decide (zs = ws))) H) : rEqD K (.ref a) (.ref b) H Q :=
  ⟨_, _, .lst (SqL.of h) dpAll_strs, .lst (SqL.of k) dpAll_strs, shaped_strs fun z hz => name_ok (nz z hz), shaped_strs fun z hz => name_ok (nw z hz), by
    have e : PyData.eqv (.list (zs.map PyData.str)) (.list (ws.map PyData.str)) = decide (zs = ws) := by rw [PyData.eqv, eqv_strs]
    rw [e]; exact q⟩
theorem eqv_bls : ∀ {zs ws : List Bool}, PyData.eqvAll (zs.map PyData.bool) (ws.map PyData.bool) = decide (zs = ws)
  | [], [] => by simp [PyData.eqvAll]
  | [], _ :: _ => by simp [PyData.eqvAll]
  | _ :: _, [] => by simp [PyData.eqvAll]
  | z :: zs, w :: ws => by
    simp only [List.map_cons, PyData.eqvAll, PyData.eqv, eqv_bls]
    by_cases h : z = w <;> simp [h]
theorem eqv_ints : ∀ {zs ws : List Int}, PyData.eqvAll (zs.map PyData.int) (ws.map PyData.int) = decide (zs = ws)
  | [], [] => by simp [PyData.eqvAll]
  | [], _ :: _ => by simp [PyData.eqvAll]
  | _ :: _, [] => by simp [PyData.eqvAll]
  | z :: zs, w :: ws => by
    simp only [List.map_cons, PyData.eqvAll, PyData.eqv, eqv_ints]
    by_cases h : z = w <;> simp [h]
theorem r_eqBls {bs cs : List Bool} (h : SqL K H a (bs.map V.bl)) (k : SqL K H b (cs.map V.bl)) (q : Q (.bl (decide (bs = cs))) H) : rEqD K (.ref a) (.ref b) H Q :=
  ⟨_, _, .lst h dpAll_bls, .lst k dpAll_bls, shaped_bls, shaped_bls, by
    have e : PyData.eqv (.list (bs.map PyData.bool)) (.list (cs.map PyData.bool)) = decide (bs = cs) := by rw [PyData.eqv, eqv_bls]
    rw [e]; exact q⟩
theorem r_eqInts {bs cs : List Int} (h : SqL K H a (bs.map V.int)) (k : SqL K H b (cs.map V.int)) (q : Q (.bl (decide (bs = cs))) H) : rEqD K (.ref a) (.ref b) H Q :=
  ⟨_, _, .lst h dpAll_ints, .lst k dpAll_ints, shaped_ints, shaped_ints, by
    have e : PyData.eqv (.list (bs.map PyData.int)) (.list (cs.map PyData.int)) = decide (bs = cs) := by rw [PyData.eqv, eqv_ints]
    rw [e]; exact q⟩
theorem r_neInts {bs cs : List Int} (h : SqL K H a (bs.map V.int)) (k : SqL K H b (cs.map V.int)) (q : Q (.bl (!decide (bs = cs))) H) : rNeD K (.ref a) (.ref b) H Q :=
  ⟨_, _, .lst h dpAll_ints, .lst k dpAll_ints, shaped_ints, shaped_ints, by
    have e : PyData.eqv (.list (bs.map PyData.int)) (.list (cs.map PyData.int)) = decide (bs = cs) := by rw [PyData.eqv, eqv_ints]
    rw [e]; exact q⟩
theorem r_neStrs (h : H a = some (.lst (zs.map V.str))) (k : H b = some (.lst (ws.map V.str))) (nz : ∀ z ∈ zs, nameS z = true) (nw : ∀ z ∈ ws, nameS z = true) (q : Q (.bl (!decide (zs = ws))) H) : rNeD K (.ref a) (.ref b) H Q :=
  ⟨_, _, .lst (SqL.of h) dpAll_strs, .lst (SqL.of k) dpAll_strs, shaped_strs fun z hz => name_ok (nz z hz), shaped_strs fun z hz => name_ok (nw z hz), by
    have e : PyData.eqv (.list (zs.map PyData.str)) (.list (ws.map PyData.str)) = decide (zs = ws) := by rw [PyData.eqv, eqv_strs]
    rw [e]; exact q⟩
end
/-! ### lengths of texts -/
theorem tl_app {x y : Str} {n m : Nat} (hx : x.length ≤ n) (hy : y.length ≤ m) : (x ++ y).length ≤ n + m := by rw [app_len]; omega
theorem tl_cut {z : Str} {n : Nat} {lo hi : Option Int} (h : z.length ≤ n) : (cutS z lo hi).length ≤ n := Nat.le_trans cutS_len h
theorem tl_name {z : Str} (h : nameS z = true) : z.length ≤ 8 := (name_len h).2
theorem tl_c {c : Nat} : (⟨#[c]⟩ : Str).length ≤ 1 := Nat.le_refl _
theorem tl_lit {z : Str} : z.length ≤ z.length := Nat.le_refl _
theorem tl_cat {x y : Str} {n m : Nat} (hx : x.length ≤ n) (hy : y.length ≤ m) (c : n + m ≤ 16777216) : x.length + y.length ≤ sizeLine := by rw [sizeLine_eq]; omega
theorem tl_one {x : Str} {n : Nat} (hx : x.length ≤ n) (c : n ≤ 16777216) : x.length ≤ sizeLine := by rw [sizeLine_eq]; omega
theorem tl_sh {x : Str} {n : Nat} (hx : x.length ≤ n) (c : n ≤ 100000) : x.length ≤ 100000 := Nat.le_trans hx c
theorem one_name {zs : List Str} {n : Nat} (h : zs.length = n) (h1 : 1 ≤ n) (h8 : n ≤ 8) (hz : ∀ z ∈ zs, ∃ c, z = ⟨#[c]⟩ ∧ 97 ≤ c ∧ c ≤ 122) : nameS (Txt.join "" zs) = true ∧ (zs.map (·.length)).sum = zs.length := by
  have e : ∀ (zs : List Str), (∀ z ∈ zs, ∃ c, z = ⟨#[c]⟩ ∧ 97 ≤ c ∧ c ≤ 122) → ((zs.map fun y => y.cps.toList).flatten.length = zs.length ∧ (∀ c ∈ (zs.map fun y => y.cps.toList).flatten, 97 ≤ c ∧ c ≤ 122)) ∧ (zs.map (·.length)).sum = zs.length := by
    intro zs
    induction zs with
    | nil => intro _; exact ⟨⟨rfl, fun c hc => by cases hc⟩, rfl⟩
    | cons z zs ih =>
      intro hz
      obtain ⟨c, rfl, c0, c1⟩ := hz z List.mem_cons_self
      obtain ⟨⟨i1, i2⟩, i3⟩ := ih fun y hy => hz y (List.mem_cons_of_mem _ hy)
      refine ⟨⟨?_, ?_⟩, ?_⟩
      · rw [List.map_cons, List.flatten_cons, List.length_append, i1]; simp; omega
      · intro d hd
        rw [List.map_cons, List.flatten_cons, List.mem_append] at hd
        rcases hd with hd | hd
        · simp at hd; subst hd; exact ⟨c0, c1⟩
        · exact i2 d hd
      · rw [List.map_cons, List.sum_cons, i3]
        show 1 + _ = _
        simp; omega
  obtain ⟨⟨a1, a2⟩, a3⟩ := e zs hz
  refine ⟨?_, a3⟩
  rw [nameS_iff, join_e]
  exact ⟨⟨by omega, by omega⟩, a2⟩
theorem letter_at {i : Int} (h0 : 0 ≤ i) (h1 : i < 26) : ∃ c, atI lettersS.cps.toList i = some c ∧ 97 ≤ c ∧ c ≤ 122 := by
  have hl : i.toNat < lettersS.cps.toList.length := by rw [letters_l]; simp; omega
  refine ⟨lettersS.cps.toList[i.toNat], ?_, letter_iff.mp (List.getElem_mem hl)⟩
  have e : i = (i.toNat : Int) := by omega
  exact ix_some e (List.getElem?_eq_getElem hl)
theorem axz_at {i : Int} (h0 : 0 ≤ i) (h1 : i < 3) : ∃ c, atI ("axz" : Str).cps.toList i = some c ∧ 97 ≤ c ∧ c ≤ 122 := by
  rcases (by omega : i = 0 ∨ i = 1 ∨ i = 2) with rfl | rfl | rfl
  · exact ⟨97, by decide +kernel, by decide, by decide⟩
  · exact ⟨120, by decide +kernel, by decide, by decide⟩
  · exact ⟨122, by decide +kernel, by decide, by decide⟩
theorem cutS_to {z : Str} {n : Int} (h0 : 0 ≤ n) : (cutS z none (some n)).length = min n.toNat z.length := by
  rw [len_l, cutS_l, List.length_take]
  show min (HT.sIx z.length z.length (some n) - 0) (List.drop 0 _).length = _
  have e : HT.sIx z.length z.length (some n) = min n.toNat z.length := by
    unfold HT.sIx
    dsimp only
    rw [if_neg (by omega)]
  rw [e, List.drop_zero, ← len_l]
  omega
theorem cutS_from {z : Str} {n : Int} (h0 : 0 ≤ n) : (cutS z (some n) none).length = z.length - n.toNat := by
  rw [len_l, cutS_l, List.length_take]
  have e : HT.sIx z.length 0 (some n) = min n.toNat z.length := by
    unfold HT.sIx
    dsimp only
    rw [if_neg (by omega)]
  have e2 : HT.sIx z.length z.length none = z.length := rfl
  rw [e, e2, List.length_drop, ← len_l]
  omega
theorem small_all {z : Str} (h : nameS z = true) : ∀ c ∈ z.cps.toList, 97 ≤ c ∧ c ≤ 122 := (nameS_iff.mp h).2
theorem inT_of {C : Str} (h : (subT.lookup C).isSome = true) : inT C = true := h
end Pr
open Pr
/-- what stands for data -/
local macro_rules | `(tactic| kd_addB) => `(tactic| first
  | with_reducible assumption
  | exact At.int _
  | exact At.bl _
  | exact At.non
  | exact At.str _
  | ((with_reducible refine' At.same ?s ?h); (case h => with_reducible assumption); (case s => k_subL))
  | ((with_reducible refine' At.tup ?h ?l); (case h => kcj_m); (case l => kd_addW))
  | ((with_reducible refine' At.lst ?h ?l); (case h => kcj_m); (case l => kd_addW))
  | ((with_reducible refine' At.dct ?h); (case h => kcj_m))
  | ((with_reducible refine' At.obj ?h ?m ?l); (case h => kcj_m); (case m => decide +kernel); (case l => kd_adr)))
local macro_rules | `(tactic| kd_addW) => `(tactic| first
  | with_reducible assumption
  | exact AtL.nil
  | ((with_reducible refine' AtL.cons ?x ?y); (case x => kd_addB); (case y => kd_addW))
  | exact AtL.strs
  | exact AtL.ints
  | ((with_reducible refine' AtL.same ?s ?h); (case h => with_reducible assumption); (case s => k_subL)))
local macro_rules | `(tactic| kd_adr) => `(tactic| first
  | with_reducible assumption
  | exact AtF.nil
  | ((with_reducible refine' AtF.cons ?x ?y); (case x => kd_addB); (case y => kd_adr))
  | ((with_reducible refine' AtF.same ?s ?h); (case h => with_reducible assumption); (case s => k_subL)))
local macro_rules | `(tactic| kd_all) => `(tactic| first
  | exact XL.nil
  | ((with_reducible refine' XL.cons ?m ?l); (case m => decide +kernel); (case l => kd_all)))
local macro_rules | `(tactic| kas_types) => `(tactic| first
  | ((with_reducible refine' r_isAo (b := true) ?hc ?h ?m ?e ?_); (case hc => with_reducible assumption); (case h => kd_addB); (case m => decide +kernel); (case e => decide +kernel))
  | ((with_reducible refine' r_isAo (b := false) ?hc ?h ?m ?e ?_); (case hc => with_reducible assumption); (case h => kd_addB); (case m => decide +kernel); (case e => decide +kernel))
  | ((with_reducible refine' r_isAe (c := false) ?hc ?h ?m ?e ?_); (case hc => with_reducible assumption); (case h => kd_addB); (case m => decide +kernel); (case e => (first | exact rfl | with_reducible assumption)))
  | ((with_reducible refine' r_isAe (c := true) ?hc ?h ?m ?e ?_); (case hc => with_reducible assumption); (case h => kd_addB); (case m => decide +kernel); (case e => with_reducible assumption))
  | ((with_reducible refine' r_isA ?hc ?h ?m ?_); (case hc => with_reducible assumption); (case h => kd_addB); (case m => decide +kernel))
  | ((with_reducible refine' r_isBe (c := true) ?hc ?h ?m ?mt ?e ?_); (case hc => with_reducible assumption); (case h => kd_addB); (case m => decide +kernel); (case mt => decide +kernel); (case e => (first | exact rfl | with_reducible assumption)))
  | ((with_reducible refine' r_isBe (c := false) ?hc ?h ?m ?mt ?e ?_); (case hc => with_reducible assumption); (case h => kd_addB); (case m => decide +kernel); (case mt => decide +kernel); (case e => (first | exact rfl | with_reducible assumption)))
  | ((with_reducible refine' r_isB ?hc ?h ?m ?mt ?_); (case hc => with_reducible assumption); (case h => kd_addB); (case m => decide +kernel); (case mt => decide +kernel))
  | ((with_reducible refine' r_fldI ?h ?c ?n ?l ?_); (case h => kcj_m); (case c => with_reducible exact Hc.cls (by assumption) (by decide +kernel)); (case n => with_reducible exact Hc.na (by assumption) (by decide +kernel)); (case l => exact rfl))
  | ((with_reducible refine' r_fldD ?hc ?h ?m ?l (fun u hu => ?_)); (case hc => with_reducible assumption); (case h => kd_addB); (case m => decide +kernel); (case l => exact rfl))
  | ((with_reducible refine' r_set ?h ?c ?n ?l ?e ?_); (case h => kcj_m); (case c => with_reducible exact Hc.cls (by assumption) (by decide +kernel)); (case n => with_reducible exact Hc.na (by assumption) (by decide +kernel)); (case l => (simp only [List.length]; omega)); (case e => kd_in))
  | ((with_reducible refine' r_isXTE ?hx ?m ?hd ?ht ?l (b := false) ?e ?_); (case hx => with_reducible assumption); (case hd => kx_w2); (case m => decide +kernel); (case ht => kcj_m); (case l => kd_all); (case e => decide +kernel))
  | ((with_reducible refine' r_isXTE ?hx ?m ?hd ?ht ?l (b := true) ?e ?_); (case hx => with_reducible assumption); (case hd => kx_w2); (case m => decide +kernel); (case ht => kcj_m); (case l => kd_all); (case e => decide +kernel))
  | ((with_reducible refine' r_isXE ?hx (b := true) ?m ?n ?hd ?e ?_); (case hx => with_reducible assumption); (case hd => kx_w2); (case m => decide +kernel); (case n => decide +kernel); (case e => decide +kernel))
  | ((with_reducible refine' r_isXE ?hx (b := false) ?m ?n ?hd ?e ?_); (case hx => with_reducible assumption); (case hd => kx_w2); (case m => decide +kernel); (case n => decide +kernel); (case e => decide +kernel))
  | ((with_reducible refine' r_isXV ?hx ?m ?hd ?_); (case hx => with_reducible assumption); (case hd => kx_w2); (case m => decide +kernel))
  | ((with_reducible refine' ite_bt ?hb ?_); (case hb => with_reducible assumption))
  | ((with_reducible refine' ite_bf ?hb ?_); (case hb => with_reducible assumption))
  | (with_reducible refine r_raise ?_)
  | (with_reducible refine r_tryAs ?_)
  | (with_reducible refine r_callS ?_)
  | (with_reducible refine r_m0 ?_)
  | (with_reducible refine r_m1 ?_)
  | (with_reducible refine r_exS ?_)
  | ((with_reducible refine' r_catS ?h ?_); (case h => (refine' tl_cat ?a ?b ?c; (case a => kd_mem); (case b => kd_mem); (case c => decide +kernel))))
  | ((with_reducible refine' r_slS ?h ?_); (case h => (refine' tl_one ?a ?c; (case a => kd_mem); (case c => decide +kernel))))
  | ((with_reducible refine' r_strI ?h ?_); (case h => exact log2_small (by omega) (by omega)))
  | ((with_reducible refine' r_caughtE ?hx ?m ?n ?e (fun ae hae => ?_)); (case hx => with_reducible assumption); (case m => decide +kernel); (case n => decide +kernel); (case e => decide +kernel)))
local macro_rules | `(tactic| kd_in) => `(tactic| first
  | exact putF_nil
  | exact putF_hit
  | (refine' putF_miss ?n ?r; (case n => decide); (case r => kd_in)))
local macro_rules | `(tactic| kd_mem) => `(tactic| first
  | with_reducible assumption
  | ((with_reducible refine' tl_app ?a ?b); (case a => kd_mem); (case b => kd_mem))
  | ((with_reducible refine' tl_cut ?a); (case a => kd_mem))
  | ((with_reducible refine' tl_name ?a); (case a => with_reducible assumption))
  | with_reducible exact tl_c
  | with_reducible exact tl_lit)
local macro_rules | `(tactic| kd_p) => `(tactic| first
  | exact rfl
  | (simp (discharger := with_reducible assumption) only [SeqAt.shaped, PyData.canLay0, PyData.canLayAll0, PyData.depth, PyData.depthAll, name_ok, Bool.and_true, Bool.true_and, Nat.max_self, Nat.zero_max, Nat.max_zero]; decide))
local macro_rules | `(tactic| kas_types) => `(tactic| first
  | ((with_reducible refine' r_eqDe ?hx ?hy ?sd ?h ?_); (case hx => kbo_bools); (case hy => kbo_bools); (case sd => kd_p); (case h => got_up))
  | ((with_reducible refine' r_neDe ?hx ?hy ?sd ?h ?_); (case hx => kbo_bools); (case hy => kbo_bools); (case sd => kd_p); (case h => got_up)))
local macro_rules | `(tactic| kx_w2) => `(tactic| first
  | with_reducible exact xd_none
  | ((with_reducible refine' xd_some ?h); (case h => kcj_m)))
local macro_rules | `(tactic| kas_types) => `(tactic| first
  | (with_reducible refine r_raiseO ?_)
  | (with_reducible refine r_veI ?_)
  | (with_reducible refine r_ost ?_)
  | (with_reducible refine r_xf ?_)
  | ((with_reducible refine' r_xfa ?h ?l ?_); (case h => kcj_m); (case l => exact rfl)))
local macro_rules | `(tactic| kas_types) => `(tactic| first
  | (with_reducible refine r_lenSetG ?_)
  | ((with_reducible refine' r_tupL ?h (fun l hl => ?_)); (case h => k_places))
  | ((with_reducible refine' r_listL ?h (fun l hl => ?_)); (case h => k_places))
  | ((with_reducible refine' r_listT ?h (fun l hl => ?_)); (case h => k_places)))

namespace Pr
open PySem PySem.Spec PyProof.Rows L2 Vs
/-! ### a state that numbers are drawn from -/
structure W3 where
  a : Int
  b : Int
  c : Int
abbrev W3.o (w : W3) : HO := .lst [.int w.a, .int w.b, .int w.c]
end Pr

namespace Pr
open PySem PySem.Spec PyProof.Rows L2 Vs He
def madeB (n : Int) (d : Dt) : Bool := if n = 1 ∨ n = 2 then d.namesN else if n = 3 then d.wt else if n = 4 then d.isA "Fit" else d.fits2
def madeC (n : Int) : Str × Str := if n = 1 then ("Kind", "names") else if n = 2 then ("Place", "names") else if n = 5 then ("Both", "fits") else ("Either", "fits")
end Pr

namespace Pr
open PySem PySem.Spec PyProof.Rows L2 He Vs
def top (i : Nat) : Stmt := PySem.Challenge.pw_bellsaway_k07_fits_made.main.body.getD i (.Pass ⟨0, 0, 0, 0⟩)
abbrev s_is_whole : Stmt := top 10
def d_is_whole : He.DefD := ⟨("is_whole", none), "is_whole", "is_whole", defArgs s_is_whole, defBody s_is_whole, defScope s_is_whole, [], []⟩
abbrev s_is_weight : Stmt := top 16
def d_is_weight : He.DefD := ⟨("is_weight", none), "is_weight", "is_weight", defArgs s_is_weight, defBody s_is_weight, defScope s_is_weight, [], []⟩
abbrev s_Least_init : Stmt := inClass (top 24) 0
def d_Least_init : He.DefD := ⟨("Least", some "__init__"), "__init__", "Least.__init__", defArgs s_Least_init, defBody s_Least_init, defScope s_Least_init, [], []⟩
abbrev s_Not_init : Stmt := inClass (top 25) 0
def d_Not_init : He.DefD := ⟨("Not", some "__init__"), "__init__", "Not.__init__", defArgs s_Not_init, defBody s_Not_init, defScope s_Not_init, [], []⟩
abbrev s_law_begin : Stmt := top 31
def d_law_begin : He.DefD := ⟨("_law_begin", none), "_law_begin", "_law_begin", defArgs s_law_begin, defBody s_law_begin, defScope s_law_begin, [], []⟩
abbrev s_law_next : Stmt := top 32
def d_law_next : He.DefD := ⟨("_law_next", none), "_law_next", "_law_next", defArgs s_law_next, defBody s_law_next, defScope s_law_next, [], []⟩
abbrev s_law_name : Stmt := top 33
def d_law_name : He.DefD := ⟨("_law_name", none), "_law_name", "_law_name", defArgs s_law_name, defBody s_law_name, defScope s_law_name, [], []⟩
abbrev s_law_names : Stmt := top 34
def d_law_names : He.DefD := ⟨("_law_names", none), "_law_names", "_law_names", defArgs s_law_names, defBody s_law_names, defScope s_law_names, [], []⟩
abbrev s_is_name : Stmt := top 14
def d_is_name : He.DefD := ⟨("is_name", none), "is_name", "is_name", defArgs s_is_name, defBody s_is_name, defScope s_is_name, [], []⟩
abbrev s_Happening_init : Stmt := inClass (top 17) 0
def d_Happening_init : He.DefD := ⟨("Happening", some "__init__"), "__init__", "Happening.__init__", defArgs s_Happening_init, defBody s_Happening_init, defScope s_Happening_init, [], []⟩
abbrev s_law_odd : Stmt := top 39
def d_law_odd : He.DefD := ⟨("_law_odd", none), "_law_odd", "_law_odd", defArgs s_law_odd, defBody s_law_odd, defScope s_law_odd, [], []⟩
abbrev s_law_kinds : Stmt := top 35
def d_law_kinds : He.DefD := ⟨("_law_kinds", none), "_law_kinds", "_law_kinds", defArgs s_law_kinds, defBody s_law_kinds, defScope s_law_kinds, [], []⟩
abbrev s_law_is_kind : Stmt := top 36
def d_law_is_kind : He.DefD := ⟨("_law_is_kind", none), "_law_is_kind", "_law_is_kind", defArgs s_law_is_kind, defBody s_law_is_kind, defScope s_law_is_kind, [], []⟩
abbrev s_Several_init : Stmt := inClass (top 26) 0
def d_Several_init : He.DefD := ⟨("Several", some "__init__"), "__init__", "Several.__init__", defArgs s_Several_init, defBody s_Several_init, defScope s_Several_init, [], []⟩
abbrev s_are_names : Stmt := top 15
def d_are_names : He.DefD := ⟨("are_names", none), "are_names", "are_names", defArgs s_are_names, defBody s_are_names, defScope s_are_names, [], []⟩
abbrev s_Named_init : Stmt := inClass (top 21) 0
def d_Named_init : He.DefD := ⟨("Named", some "__init__"), "__init__", "Named.__init__", defArgs s_Named_init, defBody s_Named_init, defScope s_Named_init, [], []⟩
abbrev s_law_made : Stmt := top 37
def d_law_made : He.DefD := ⟨("_law_made", none), "_law_made", "_law_made", defArgs s_law_made, defBody s_law_made, defScope s_law_made, [], []⟩
abbrev s_law_named : Stmt := top 40
def d_law_named : He.DefD := ⟨("_law_named", none), "_law_named", "_law_named", defArgs s_law_named, defBody s_law_named, defScope s_law_named, [], []⟩
abbrev s_law_several : Stmt := top 41
def d_law_several : He.DefD := ⟨("_law_several", none), "_law_several", "_law_several", defArgs s_law_several, defBody s_law_several, defScope s_law_several, [], []⟩
abbrev s_law_refused : Stmt := top 38
def d_law_refused : He.DefD := ⟨("_law_refused", none), "_law_refused", "_law_refused", defArgs s_law_refused, defBody s_law_refused, defScope s_law_refused, [], []⟩
abbrev s_law : Stmt := top 42
def d_law : He.DefD := ⟨("law", none), "law", "law", defArgs s_law, defBody s_law, defScope s_law, [], []⟩
def fn : List He.DefD := [d_is_whole, d_is_weight, d_Least_init, d_Not_init, d_law_begin, d_law_next, d_law_name, d_law_names, d_is_name, d_Happening_init, d_law_odd, d_law_kinds, d_law_is_kind, d_Several_init, d_are_names, d_Named_init, d_law_made, d_law_named, d_law_several, d_law_refused, d_law]
def fa : List He.Fa := [.free "bool", .free "int", .free "isinstance", .glo "is_whole", .glo "NoFit", .glo "is_weight", .exc "NoFit", .glo "Fit", .glo "_law_next", .free "len", .free "range", .glo "_law_name", .free "all", .free "str", .int "MOST_LETTERS" 8, .str "LETTERS" "abcdefghijklmnopqrstuvwxyz", .glo "NoHappening", .glo "is_name", .exc "NoHappening", .glo "Happening", .free "tuple", .mkr "Happening", .glo "Any", .glo "Both", .glo "Either", .glo "Kind", .glo "Least", .glo "Not", .glo "Place", .glo "_law_kinds", .free "list", .free "set", .glo "are_names", .mkr "Least", .mkr "Not", .glo "_law_is_kind", .glo "_law_made", .glo "BellError", .glo "NoClock", .glo "NoRow", .glo "NoText", .glo "NoWish", .free "ValueError", .glo "_law_begin", .glo "_law_named", .glo "_law_names", .glo "_law_odd", .glo "_law_refused", .glo "_law_several", .glo "law"]
def xs : List (PySem.W.Frag → Bool) := [hcB, xcB, (fun K => mkB K (ga K "Both") (ma K (ga K "Several") "__init__")), (fun K => mkB K (ga K "Either") (ma K (ga K "Several") "__init__")), (fun K => mkB K (ga K "Kind") (ma K (ga K "Named") "__init__")), (fun K => mkB K (ga K "Place") (ma K (ga K "Named") "__init__")), (fun K => mk0B K (ga K "Any"))]
/-! ### what the head tells -/
abbrev AlM : Type := AlD × Bool
/-- the names' part of the heap, and the classes' statics -/
def asC (g : Addr → Option Obj) (n : Nat) : List Addr := cStatics :: asD g n
def obsM (n : Nat) (g : Addr → Option Obj) : AlM := (obsD fa fn (frG g (asC g n)), xs.all fun f => f (frG g (asC g n)))
def hookM (n : Nat) : PySem.W.Hook where
  α := AlM
  obs := fun s => obsM n s.heap.get?
  val := fun _ => (valD fn, true)
  says := fun _ h => ∃ K : PySem.W.Frag, K.In h ∧ (SaysD fa fn K ∧ (xs.all fun f => f K) = true)
  of := fun _ _ e => ⟨_, frG_in, congrArg (fun z : AlM => z.1) e, congrArg (fun z : AlM => z.2) e⟩
  keeps := fun _ _ _ ⟨K, hK, c⟩ k => ⟨K, PySem.W.Frag.In.keeps hK k, c⟩
structure Env (K : PySem.W.Frag) (mg : Str → Option Value) : Prop where
  c : SaysD fa fn K
  g : ∃ h : Heap, K.In h ∧ h.Ns mainGlobals mg
  xa : (xs.all fun f => f K) = true
theorem Env.glo {K : PySem.W.Frag} {mg : Str → Option Value} (Z : Env K mg) (i : Nat) {x : Str} (h : fa[i]? = some (.glo x)) : mg x = some (.ref (ga K x)) := let ⟨_, X, G⟩ := Z.g; glo_ok X G (Z.c.fact i h)
theorem Env.free {K : PySem.W.Frag} {mg : Str → Option Value} (Z : Env K mg) (i : Nat) {x : Str} (h : fa[i]? = some (.free x)) : mg x = none := let ⟨_, X, G⟩ := Z.g; free_ok X G (Z.c.fact i h)
theorem Env.int {K : PySem.W.Frag} {mg : Str → Option Value} (Z : Env K mg) (j : Nat) {x : Str} {i : Int} (h : fa[j]? = some (.int x i)) : ∃ t, mg x = some (.int i t) := let ⟨_, X, G⟩ := Z.g; int_ok X G (Z.c.fact j h)
theorem Env.str {K : PySem.W.Frag} {mg : Str → Option Value} (Z : Env K mg) (j : Nat) {x z : Str} (h : fa[j]? = some (.str x z)) : ∃ t, mg x = some (.str z t) := let ⟨_, X, G⟩ := Z.g; str_ok X G (Z.c.fact j h)
theorem Env.x {K : PySem.W.Frag} {mg : Str → Option Value} (Z : Env K mg) (i : Nat) {f : PySem.W.Frag → Bool} (h : xs[i]? = some f) : f K = true := List.all_eq_true.mp Z.xa f (List.mem_of_getElem? h)

/-! ### is_whole -/
def sp_is_whole (K : PySem.W.Frag) : Sp := fun vs H Q _ => ∃ (v : V) (d : Dt), vs = [v] ∧ At K H v d ∧ Q (.bl d.whole) H
theorem sp_whole_use {K : PySem.W.Frag} {H : Hp} {Q : VK} {E : XK} {v : V} {d : Dt} (h : At K H v d) (q : Q (.bl d.whole) H) : sp_is_whole K [v] H Q E := ⟨v, d, rfl, h, q⟩
local macro_rules | `(tactic| kas_types) => `(tactic| ((with_reducible refine' sp_whole_use ?h ?_); (case h => kd_addB)))
def t_is_whole (K : PySem.W.Frag) : TS :=
  (tRet (tAndV (tCB (rIsi K) (tCons (tVar 0) (tCons (tC (.ty "int")) tNil))) (tNotV (tCB (rIsi K) (tCons (tVar 0) (tCons (tC (.ty "bool")) tNil))))))
theorem run_is_whole {K : PySem.W.Frag} {vs : List V} {H : Hp} {Q : VK} {E : XK} (h : sp_is_whole K vs H Q E) (hc : Hc K) (xc : Xc K) : t_is_whole K (Ends.mk (fun _ H' => Q .non H') Q (fun _ _ => False) (fun _ _ => False)) (start ["thing"] vs) H := by
  obtain ⟨v, d, rfl, h, q⟩ := h
  unfold t_is_whole
  cases d with
  | _ =>
    k_ownIn
    exact q
theorem len_is_whole {K : PySem.W.Frag} {vs : List V} {H : Hp} {Q : VK} {E : XK} (h : sp_is_whole K vs H Q E) : vs.length = 1 := by
  first | (obtain ⟨rfl, _⟩ := h; rfl) | (obtain ⟨_, rfl, _⟩ := h; rfl) | (obtain ⟨_, _, rfl, _⟩ := h; rfl) | (obtain ⟨_, _, _, rfl, _⟩ := h; rfl) | (obtain ⟨_, _, _, _, rfl, _⟩ := h; rfl) | (obtain ⟨_, _, _, _, _, rfl, _⟩ := h; rfl) | (obtain ⟨_, _, _, _, _, _, rfl, _⟩ := h; rfl) | (obtain ⟨_, _, _, _, _, _, _, rfl, _⟩ := h; rfl) | (obtain ⟨_, _, _, _, _, _, _, _, rfl, _⟩ := h; rfl) | (obtain ⟨_, _, _, _, _, _, _, _, _, rfl, _⟩ := h; rfl) | (obtain ⟨_, _, _, _, _, _, _, _, _, _, rfl, _⟩ := h; rfl) | (obtain ⟨_, _, _, _, _, _, _, _, _, _, _, rfl, _⟩ := h; rfl) | (obtain ⟨_, _, _, _, _, _, _, _, _, _, _, _, rfl, _⟩ := h; rfl) | (obtain ⟨_, _, _, _, _, _, _, _, _, _, _, _, _, rfl, _⟩ := h; rfl)
/-! ### is_weight -/
def sp_is_weight (K : PySem.W.Frag) : Sp := fun vs H Q _ => ∃ (v : V) (d : Dt), vs = [v] ∧ At K H v d ∧ Q (.bl d.wt) H
theorem sp_weight_use {K : PySem.W.Frag} {H : Hp} {Q : VK} {E : XK} {v : V} {d : Dt} (h : At K H v d) (q : Q (.bl d.wt) H) : sp_is_weight K [v] H Q E := ⟨v, d, rfl, h, q⟩
local macro_rules | `(tactic| kas_types) => `(tactic| ((with_reducible refine' sp_weight_use ?h ?_); (case h => kd_addB)))
def t_is_weight (K : PySem.W.Frag) : TS :=
  (tRet (tAndV (tCall (sp_is_whole K) [] E0 (tCons (tVar 0) tNil)) (tOp (rI0 fun i j => .bl (decide (j ≤ i))) (tVar 0) (tC (.int 0)))))
theorem run_is_weight {K : PySem.W.Frag} {vs : List V} {H : Hp} {Q : VK} {E : XK} (h : sp_is_weight K vs H Q E) (hc : Hc K) (xc : Xc K) : t_is_weight K (Ends.mk (fun _ H' => Q .non H') Q (fun _ _ => False) (fun _ _ => False)) (start ["thing"] vs) H := by
  obtain ⟨v, d, rfl, h, q⟩ := h
  unfold t_is_weight
  cases d with
  | int i =>
    k_ownIn
    dsimp only [Dt.whole]
    cases h
    k_ownIn
    exact q
  | _ =>
    k_ownIn
    dsimp only [Dt.whole]
    k_ownIn
    exact q
theorem len_is_weight {K : PySem.W.Frag} {vs : List V} {H : Hp} {Q : VK} {E : XK} (h : sp_is_weight K vs H Q E) : vs.length = 1 := by
  first | (obtain ⟨rfl, _⟩ := h; rfl) | (obtain ⟨_, rfl, _⟩ := h; rfl) | (obtain ⟨_, _, rfl, _⟩ := h; rfl) | (obtain ⟨_, _, _, rfl, _⟩ := h; rfl) | (obtain ⟨_, _, _, _, rfl, _⟩ := h; rfl) | (obtain ⟨_, _, _, _, _, rfl, _⟩ := h; rfl) | (obtain ⟨_, _, _, _, _, _, rfl, _⟩ := h; rfl) | (obtain ⟨_, _, _, _, _, _, _, rfl, _⟩ := h; rfl) | (obtain ⟨_, _, _, _, _, _, _, _, rfl, _⟩ := h; rfl) | (obtain ⟨_, _, _, _, _, _, _, _, _, rfl, _⟩ := h; rfl) | (obtain ⟨_, _, _, _, _, _, _, _, _, _, rfl, _⟩ := h; rfl) | (obtain ⟨_, _, _, _, _, _, _, _, _, _, _, rfl, _⟩ := h; rfl) | (obtain ⟨_, _, _, _, _, _, _, _, _, _, _, _, rfl, _⟩ := h; rfl) | (obtain ⟨_, _, _, _, _, _, _, _, _, _, _, _, _, rfl, _⟩ := h; rfl)
/-! ### Least.__init__ -/
def sp_Least_init (K : PySem.W.Frag) : Sp := fun vs H Q E => ∃ (x dx : Addr) (v : V) (d : Dt), vs = [.ref x, v] ∧ H x = some (.ins (ga K "Least") dx []) ∧ At K H v d ∧
  (d.wt = true → ∀ H', Kp x H H' → H' x = some (.ins (ga K "Least") dx [("weight", v)]) → Q .non H') ∧ (d.wt = false → ∀ H', Same H H' → E (.ref (ga K "NoFit")) none H')
theorem mk_Least {K : PySem.W.Frag} {H : Hp} {P : Hp → Prop} {E : XK} {x dx : Addr} {n : Int} (n0 : 0 ≤ n) (nx : H x = none) (nd : H dx = none ∧ dx ≠ x) (q : ∀ H', Same H H' → H' x = some (.ins (ga K "Least") dx [("weight", .int n)]) → P H') :
    sp_Least_init K [.ref x, .int n] (upd (upd H dx (.own x)) x (.ins (ga K "Least") dx [])) (fun v H2 => v = .non ∧ P H2) E :=
  ⟨x, dx, _, .int n, rfl, upd_same, .int _, fun _ H' kp hx => ⟨rfl, q H' (same_made nx nd.1 kp) hx⟩, fun h => by rw [show (Dt.int n).wt = true from decide_eq_true n0] at h; cases h⟩
local macro_rules | `(tactic| kas_types) => `(tactic| ((with_reducible refine' mk_Least ?h ?nx ?nd (fun H' sm hx => ?_)); (case h => omega); (case nx => assumption); (case nd => assumption)))
def t_Least_init (K : PySem.W.Frag) (E : XK) : TS :=
  (tSeq (tIfS (tNot (tB (tCall (sp_is_weight K) [] E0 (tCons (tVar 1) tNil)))) (tRaise E (ga K "NoFit")) tNext)
    (sFld K (tVar 0) (tVar 1) "weight"))
theorem run_Least_init {K : PySem.W.Frag} {vs : List V} {H : Hp} {Q : VK} {E : XK} (h : sp_Least_init K vs H Q E) (hc : Hc K) (xc : Xc K) : t_Least_init K E (Ends.mk (fun _ H' => Q .non H') Q (fun _ _ => False) (fun _ _ => False)) (start ["self", "weight"] vs) H := by
  obtain ⟨x, dx, v, d, rfl, hx, h, q, b⟩ := h
  unfold t_Least_init
  k_ownIn
  kpt_turns
  k_ownIn
  refine ite_b (fun h1 => ?_) (fun h1 => ?_)
  · k_ownIn
    exact b (by simpa using h1) _ (Same.refl _)
  k_ownIn
  exact q (by simpa using h1) _ (by k_subL) upd_same
theorem len_Least_init {K : PySem.W.Frag} {vs : List V} {H : Hp} {Q : VK} {E : XK} (h : sp_Least_init K vs H Q E) : vs.length = 2 := by
  first | (obtain ⟨rfl, _⟩ := h; rfl) | (obtain ⟨_, rfl, _⟩ := h; rfl) | (obtain ⟨_, _, rfl, _⟩ := h; rfl) | (obtain ⟨_, _, _, rfl, _⟩ := h; rfl) | (obtain ⟨_, _, _, _, rfl, _⟩ := h; rfl) | (obtain ⟨_, _, _, _, _, rfl, _⟩ := h; rfl) | (obtain ⟨_, _, _, _, _, _, rfl, _⟩ := h; rfl) | (obtain ⟨_, _, _, _, _, _, _, rfl, _⟩ := h; rfl) | (obtain ⟨_, _, _, _, _, _, _, _, rfl, _⟩ := h; rfl) | (obtain ⟨_, _, _, _, _, _, _, _, _, rfl, _⟩ := h; rfl) | (obtain ⟨_, _, _, _, _, _, _, _, _, _, rfl, _⟩ := h; rfl) | (obtain ⟨_, _, _, _, _, _, _, _, _, _, _, rfl, _⟩ := h; rfl) | (obtain ⟨_, _, _, _, _, _, _, _, _, _, _, _, rfl, _⟩ := h; rfl) | (obtain ⟨_, _, _, _, _, _, _, _, _, _, _, _, _, rfl, _⟩ := h; rfl)
/-! ### Not.__init__ -/
def sp_Not_init (K : PySem.W.Frag) : Sp := fun vs H Q E => ∃ (x dx : Addr) (v : V) (d : Dt), vs = [.ref x, v] ∧ H x = some (.ins (ga K "Not") dx []) ∧ At K H v d ∧
  (d.isA "Fit" = true → ∀ H', Kp x H H' → H' x = some (.ins (ga K "Not") dx [("fit", v)]) → Q .non H') ∧ (d.isA "Fit" = false → ∀ H', Same H H' → E (.ref (ga K "NoFit")) none H')
theorem mk_Not {K : PySem.W.Frag} {H : Hp} {P : Hp → Prop} {E : XK} {x dx : Addr} {v : V} {d : Dt} (h : At K H v d) (g : d.isA "Fit" = true) (nx : H x = none) (nd : H dx = none ∧ dx ≠ x) (q : ∀ H', Same H H' → H' x = some (.ins (ga K "Not") dx [("fit", v)]) → P H') :
    sp_Not_init K [.ref x, v] (upd (upd H dx (.own x)) x (.ins (ga K "Not") dx [])) (fun v H2 => v = .non ∧ P H2) E :=
  ⟨x, dx, _, d, rfl, upd_same, h.same (same_made nx nd.1 (Kp.refl _ _)), fun _ H' kp hx => ⟨rfl, q H' (same_made nx nd.1 kp) hx⟩, fun z => by rw [g] at z; cases z⟩
local macro_rules | `(tactic| kas_types) => `(tactic| ((with_reducible refine' mk_Not ?h ?g ?nx ?nd (fun H' sm hx => ?_)); (case h => kd_addB); (case g => (first | with_reducible assumption | exact isA_obj (by decide +kernel))); (case nx => assumption); (case nd => assumption)))
def t_Not_init (K : PySem.W.Frag) (E : XK) : TS :=
  (tSeq (tIfS (tNot (tB (tCB (rIsi K) (tCons (tVar 1) (tCons (tC (.ref (ga K "Fit"))) tNil))))) (tRaise E (ga K "NoFit")) tNext)
    (sFld K (tVar 0) (tVar 1) "fit"))
theorem run_Not_init {K : PySem.W.Frag} {vs : List V} {H : Hp} {Q : VK} {E : XK} (h : sp_Not_init K vs H Q E) (hc : Hc K) (xc : Xc K) : t_Not_init K E (Ends.mk (fun _ H' => Q .non H') Q (fun _ _ => False) (fun _ _ => False)) (start ["self", "fit"] vs) H := by
  obtain ⟨x, dx, v, d, rfl, hx, h, q, b⟩ := h
  unfold t_Not_init
  k_ownIn
  kpt_turns
  k_ownIn
  refine ite_b (fun h1 => ?_) (fun h1 => ?_)
  · k_ownIn
    exact b (by simpa using h1) _ (Same.refl _)
  k_ownIn
  exact q (by simpa using h1) _ (by k_subL) upd_same
theorem len_Not_init {K : PySem.W.Frag} {vs : List V} {H : Hp} {Q : VK} {E : XK} (h : sp_Not_init K vs H Q E) : vs.length = 2 := by
  first | (obtain ⟨rfl, _⟩ := h; rfl) | (obtain ⟨_, rfl, _⟩ := h; rfl) | (obtain ⟨_, _, rfl, _⟩ := h; rfl) | (obtain ⟨_, _, _, rfl, _⟩ := h; rfl) | (obtain ⟨_, _, _, _, rfl, _⟩ := h; rfl) | (obtain ⟨_, _, _, _, _, rfl, _⟩ := h; rfl) | (obtain ⟨_, _, _, _, _, _, rfl, _⟩ := h; rfl) | (obtain ⟨_, _, _, _, _, _, _, rfl, _⟩ := h; rfl) | (obtain ⟨_, _, _, _, _, _, _, _, rfl, _⟩ := h; rfl) | (obtain ⟨_, _, _, _, _, _, _, _, _, rfl, _⟩ := h; rfl) | (obtain ⟨_, _, _, _, _, _, _, _, _, _, rfl, _⟩ := h; rfl) | (obtain ⟨_, _, _, _, _, _, _, _, _, _, _, rfl, _⟩ := h; rfl) | (obtain ⟨_, _, _, _, _, _, _, _, _, _, _, _, rfl, _⟩ := h; rfl) | (obtain ⟨_, _, _, _, _, _, _, _, _, _, _, _, _, rfl, _⟩ := h; rfl)
/-! ### _law_begin -/
def sp_law_begin (K : PySem.W.Frag) : Sp := fun vs H Q _ => ∃ (c : Int), vs = [.int c] ∧ ∀ p w, H p = none → Q (.ref p) (upd H p (W3.o w))
theorem sp_begin_use {K : PySem.W.Frag} {H : Hp} {Q : VK} {E : XK} {c : Int} (q : ∀ p w, H p = none → Q (.ref p) (upd H p (W3.o w))) : sp_law_begin K [.int c] H Q E := ⟨_, rfl, q⟩
local macro_rules | `(tactic| kas_types) => `(tactic| (with_reducible refine sp_begin_use (fun p w hp => ?_)))
def t_law_begin (K : PySem.W.Frag) : TS :=
  (tRet (tLst (tCons (tOp (rI CMul fun i j => .int (i * j)) (tOp (rI CDiv fun i j => .int (i / j)) (tVar 0) (tC (.int 2))) (tOp (rI0 fun i j => .int (i - j)) (tC (.int 1)) (tOp (rI (fun _ j => 0 < j) fun i j => .int (i % j)) (tVar 0) (tC (.int 2))))) (tCons (tOp (rI (fun _ j => 0 < j) fun i j => .int (i % j)) (tVar 0) (tC (.int 2147483647))) (tCons (tC (.int 0)) tNil)))))
theorem run_law_begin {K : PySem.W.Frag} {vs : List V} {H : Hp} {Q : VK} {E : XK} (h : sp_law_begin K vs H Q E) (hc : Hc K) (xc : Xc K) : t_law_begin K (Ends.mk (fun _ H' => Q .non H') Q (fun _ _ => False) (fun _ _ => False)) (start ["_law_cell"] vs) H := by
  obtain ⟨c, rfl, q⟩ := h
  unfold t_law_begin
  k_ownIn
  exact q _ ⟨_, _, _⟩ (by assumption)
theorem len_law_begin {K : PySem.W.Frag} {vs : List V} {H : Hp} {Q : VK} {E : XK} (h : sp_law_begin K vs H Q E) : vs.length = 1 := by
  first | (obtain ⟨rfl, _⟩ := h; rfl) | (obtain ⟨_, rfl, _⟩ := h; rfl) | (obtain ⟨_, _, rfl, _⟩ := h; rfl) | (obtain ⟨_, _, _, rfl, _⟩ := h; rfl) | (obtain ⟨_, _, _, _, rfl, _⟩ := h; rfl) | (obtain ⟨_, _, _, _, _, rfl, _⟩ := h; rfl) | (obtain ⟨_, _, _, _, _, _, rfl, _⟩ := h; rfl) | (obtain ⟨_, _, _, _, _, _, _, rfl, _⟩ := h; rfl) | (obtain ⟨_, _, _, _, _, _, _, _, rfl, _⟩ := h; rfl) | (obtain ⟨_, _, _, _, _, _, _, _, _, rfl, _⟩ := h; rfl) | (obtain ⟨_, _, _, _, _, _, _, _, _, _, rfl, _⟩ := h; rfl) | (obtain ⟨_, _, _, _, _, _, _, _, _, _, _, rfl, _⟩ := h; rfl) | (obtain ⟨_, _, _, _, _, _, _, _, _, _, _, _, rfl, _⟩ := h; rfl) | (obtain ⟨_, _, _, _, _, _, _, _, _, _, _, _, _, rfl, _⟩ := h; rfl)
/-! ### _law_next -/
def sp_law_next (K : PySem.W.Frag) : Sp := fun vs H Q _ => ∃ (l : Addr) (w : W3) (m : Int), vs = [.ref l, .int m] ∧ H l = some w.o ∧ 0 < m ∧ m ≤ 1000000000000000000 ∧ ∀ v w', 0 ≤ v → v < m → Q (.int v) (upd H l (W3.o w'))
theorem sp_next_use {K : PySem.W.Frag} {H : Hp} {Q : VK} {E : XK} {l : Addr} {w : W3} {m : Int} (h : H l = some w.o) (h0 : 0 < m) (h1 : m ≤ 1000000000000000000) (q : ∀ v w', 0 ≤ v → v < m → Q (.int v) (upd H l (W3.o w'))) :
    sp_law_next K [.ref l, .int m] H Q E := ⟨l, w, m, rfl, h, h0, h1, q⟩
local macro_rules | `(tactic| kas_types) => `(tactic| ((with_reducible refine' sp_next_use ?h ?h0 ?h1 (fun v w' l0 l1 => ?_)); (case h => kcj_m); (case h0 => omega); (case h1 => omega)))
def t_law_next (K : PySem.W.Frag) : TS :=
  (tSeq (tIfS (tTest (tOp (rI0 fun i j => .bl (decide (j < i))) (tOp (rIx K) (tVar 0) (tC (.int 0))) (tC (.int 0)))) (tSeq (tAsg (tOp (rI (fun _ j => 0 < j) fun i j => .int (i % j)) (tOp (rIx K) (tVar 0) (tC (.int 0))) (tVar 1)) (gName 2))
    (tSeq (tAsg (tOp (rI CDivW fun i j => .int (i / j)) (tOp (rIx K) (tVar 0) (tC (.int 0))) (tVar 1)) (gSub (tVar 0) (tC (.int 0)) rSetL))
    (tRet (tVar 2)))) tNext)
    (tSeq (tAsg (tOp (rI0 fun i j => .int (i + j)) (tOp (rIx K) (tVar 0) (tC (.int 2))) (tC (.int 1))) (gSub (tVar 0) (tC (.int 2)) rSetL))
    (tSeq (tAsg (tOp (rI (fun _ j => 0 < j) fun i j => .int (i % j)) (tOp (rI CMul fun i j => .int (i * j)) (tOp (rI0 fun i j => .int (i + j)) (tOp (rI0 fun i j => .int (i + j)) (tOp (rIx K) (tVar 0) (tC (.int 1))) (tOp (rI CMul fun i j => .int (i * j)) (tC (.int 7919)) (tOp (rIx K) (tVar 0) (tC (.int 2))))) (tC (.int 1))) (tC (.int 48271))) (tC (.int 2147483647))) (gName 3))
    (tSeq (tAsg (tOp (rI (fun _ j => 0 < j) fun i j => .int (i % j)) (tOp (rI CMul fun i j => .int (i * j)) (tVar 3) (tOp (rI0 fun i j => .int (i + j)) (tOp (rI CDiv fun i j => .int (i / j)) (tVar 3) (tC (.int 1009))) (tC (.int 69621)))) (tC (.int 2147483647))) (gName 3))
    (tSeq (tAsg (tOp (rI (fun _ j => 0 < j) fun i j => .int (i % j)) (tOp (rI CMul fun i j => .int (i * j)) (tVar 3) (tOp (rI0 fun i j => .int (i + j)) (tOp (rI CDiv fun i j => .int (i / j)) (tVar 3) (tC (.int 2003))) (tC (.int 40692)))) (tC (.int 2147483399))) (gName 3))
    (tRet (tOp (rI (fun _ j => 0 < j) fun i j => .int (i % j)) (tOp (rI CDiv fun i j => .int (i / j)) (tVar 3) (tC (.int 7))) (tVar 1))))))))
theorem run_law_next {K : PySem.W.Frag} {vs : List V} {H : Hp} {Q : VK} {E : XK} (h : sp_law_next K vs H Q E) (hc : Hc K) (xc : Xc K) : t_law_next K (Ends.mk (fun _ H' => Q .non H') Q (fun _ _ => False) (fun _ _ => False)) (start ["_law_state", "_law_base", "_law_found", "_law_number"] vs) H := by
  obtain ⟨l, w, m, rfl, hl, h0, h1, q⟩ := h
  unfold t_law_next
  k_ownIn
  keq_rows
  · intro hc
    k_ownIn
    exact q _ ⟨w.a / m, w.b, w.c⟩ (Int.emod_nonneg _ (by omega)) (Int.emod_lt_of_pos _ h0)
  · intro hc
    k_ownIn
    exact q _ ⟨w.a, w.b, w.c + 1⟩ (Int.emod_nonneg _ (by omega)) (Int.emod_lt_of_pos _ h0)
theorem len_law_next {K : PySem.W.Frag} {vs : List V} {H : Hp} {Q : VK} {E : XK} (h : sp_law_next K vs H Q E) : vs.length = 2 := by
  first | (obtain ⟨rfl, _⟩ := h; rfl) | (obtain ⟨_, rfl, _⟩ := h; rfl) | (obtain ⟨_, _, rfl, _⟩ := h; rfl) | (obtain ⟨_, _, _, rfl, _⟩ := h; rfl) | (obtain ⟨_, _, _, _, rfl, _⟩ := h; rfl) | (obtain ⟨_, _, _, _, _, rfl, _⟩ := h; rfl) | (obtain ⟨_, _, _, _, _, _, rfl, _⟩ := h; rfl) | (obtain ⟨_, _, _, _, _, _, _, rfl, _⟩ := h; rfl) | (obtain ⟨_, _, _, _, _, _, _, _, rfl, _⟩ := h; rfl) | (obtain ⟨_, _, _, _, _, _, _, _, _, rfl, _⟩ := h; rfl) | (obtain ⟨_, _, _, _, _, _, _, _, _, _, rfl, _⟩ := h; rfl) | (obtain ⟨_, _, _, _, _, _, _, _, _, _, _, rfl, _⟩ := h; rfl) | (obtain ⟨_, _, _, _, _, _, _, _, _, _, _, _, rfl, _⟩ := h; rfl) | (obtain ⟨_, _, _, _, _, _, _, _, _, _, _, _, _, rfl, _⟩ := h; rfl)
/-! ### _law_name -/
def sp_law_name (K : PySem.W.Frag) : Sp := fun vs H Q _ => ∃ (l : Addr) (w : W3), vs = [.ref l] ∧ H l = some w.o ∧ ∀ z w' H', nameS z = true → H' l = some (W3.o w') → Kp l H H' → Q (.str z) H'
theorem sp_law_name_use {K : PySem.W.Frag} {H : Hp} {Q : VK} {E : XK} {l : Addr} {w : W3} (h : H l = some w.o) (q : ∀ z w' H', nameS z = true → H' l = some (W3.o w') → Kp l H H' → Q (.str z) H') : sp_law_name K [.ref l] H Q E := ⟨l, w, rfl, h, q⟩
local macro_rules | `(tactic| kas_types) => `(tactic| ((with_reducible refine' sp_law_name_use ?h (fun z w' H' nz hl kp => ?_)); (case h => kcj_m)))
def t_law_name (K : PySem.W.Frag) : TS :=
  (tSeq (tAsg (tC (.str "abcdefghijklmnopqrstuvwxyz")) (gName 1))
    (tSeq (tAsg (tCall (sp_law_next K) [] E0 (tCons (tVar 0) (tCons (tC (.int 4)) tNil))) (gName 2))
    (tSeq (tIfS (tTest (tOp rEq (tVar 2) (tC (.int 0)))) (tSeq (tAsg (tLst (tCons (tC (.str "any")) (tCons (tC (.str "kind")) (tCons (tC (.str "place")) (tCons (tC (.str "weight")) (tCons (tC (.str "not")) (tCons (tC (.str "by")) (tCons (tC (.str "now")) (tCons (tC (.str "hour")) (tCons (tC (.str "day")) (tCons (tC (.str "never")) (tCons (tC (.str "sure")) (tCons (tC (.str "raise")) (tCons (tC (.str "zone")) tNil)))))))))))))) (gName 3))
    (tRet (tOp (rIx K) (tOp rCat (tVar 3) (tLst (tCons (tC (.str "quiet")) (tCons (tC (.str "a")) (tCons (tC (.str "to")) tNil))))) (tCall (sp_law_next K) [] E0 (tCons (tVar 0) (tCons (tC (.int 16)) tNil)))))) tNext)
    (tSeq (tIfS (tTest (tOp rEq (tVar 2) (tC (.int 1)))) (tSeq (tAsg (tSl rSlS (tC (.str "bcdefghi")) tNoPart (tPart (tOp (rI0 fun i j => .int (i + j)) (tC (.int 1)) (tCall (sp_law_next K) [] E0 (tCons (tVar 0) (tCons (tC (.int 8)) tNil)))))) (gName 4))
    (tSeq (tAsg (tCall (sp_law_next K) [] E0 (tCons (tVar 0) (tCons (tCB (rLen K) (tCons (tVar 4) tNil)) tNil))) (gName 5))
    (tRet (tOp rCatS (tOp rCatS (tSl rSlS (tVar 4) tNoPart (tPart (tVar 5))) (tOp (rIx K) (tC (.str "axz")) (tCall (sp_law_next K) [] E0 (tCons (tVar 0) (tCons (tC (.int 3)) tNil))))) (tSl rSlS (tVar 4) (tPart (tOp (rI0 fun i j => .int (i + j)) (tVar 5) (tC (.int 1)))) tNoPart))))) tNext)
    (tRet (tM1 (rJoin K) (tC (.str "")) (tLc (iRng1 (tCons (tOp (rI0 fun i j => .int (i + j)) (tC (.int 1)) (tCall (sp_law_next K) [] E0 (tCons (tVar 0) (tCons (tC (.int 8)) tNil)))) tNil)) (gName 6) tYes (tOp (rIx K) (tVar 1) (tCall (sp_law_next K) [] E0 (tCons (tVar 0) (tCons (tC (.int 26)) tNil)))) [6])))))))
theorem run_law_name {K : PySem.W.Frag} {vs : List V} {H : Hp} {Q : VK} {E : XK} (h : sp_law_name K vs H Q E) (hc : Hc K) (xc : Xc K) : t_law_name K (Ends.mk (fun _ H' => Q .non H') Q (fun _ _ => False) (fun _ _ => False)) (start ["_law_state", "_law_letters", "_law_way", "_law_some", "_law_word", "_law_at", "_law_k"] vs) H := by
  obtain ⟨l, w, rfl, hl, q⟩ := h
  unfold t_law_name
  k_ownIn
  rename_i wy ww wy0 wy1
  keq_rows
  · intro _
    k_ownIn
    rename_i p1 hp1 p2 hp2 p3 hp3 n w2 n0 n1
    refine r_ixA (fun v => ∃ z, v = .str z ∧ nameS z = true) (by k_places) n0 (by simpa using n1) ?_ ?_
    · intro v hv
      simp only [List.cons_append, List.nil_append, List.mem_cons, List.not_mem_nil, or_false] at hv
      rcases hv with rfl | rfl | rfl | rfl | rfl | rfl | rfl | rfl | rfl | rfl | rfl | rfl | rfl | rfl | rfl | rfl <;> exact ⟨_, rfl, by decide +kernel⟩
    · rintro v ⟨z, rfl, nz⟩
      exact q z w2 _ nz (by kcj_m) (by k_subL)
  intro _
  k_ownIn
  keq_rows
  · intro _
    k_ownIn
    rename_i n w2 n0 n1
    generalize hz : cutS ("bcdefghi" : Str) none (some (1 + n)) = z
    have lz : z.length = (1 + n).toNat := by
      rw [← hz, cutS_to (by omega)]
      have : ("bcdefghi" : Str).length = 8 := by decide +kernel
      omega
    have sz : ∀ c ∈ z.cps.toList, 97 ≤ c ∧ c ≤ 122 := by
      intro c hc
      rw [← hz] at hc
      have := cutS_mem hc
      revert c
      intro c _ hc
      exact small_all (z := "bcdefghi") (by decide +kernel) c hc
    have lz8 : z.length ≤ 8 := by omega
    k_ownIn
    refine r_lenS (by rw [sizeLine_eq]; omega) ?_
    k_ownIn
    rename_i at_ w3 a0 a1 x w4 x0 x1
    obtain ⟨c, hc, c0, c1⟩ := axz_at x0 x1
    refine r_ixS (by decide +kernel) hc ?_
    have l1 : (cutS z none (some at_)).length = at_.toNat := by rw [cutS_to (by omega)]; omega
    have l2 : (cutS z (some (at_ + 1)) none).length = z.length - (at_ + 1).toNat := cutS_from (by omega)
    have lc : (⟨#[c]⟩ : Str).length = 1 := rfl
    k_ownIn
    refine q _ _ _ ?_ (by kcj_m) (by k_subL)
    rw [nameS_iff, ← len_l, app_len, app_len, lc, l1, l2]
    refine ⟨by omega, fun d hd => ?_⟩
    rw [app_l, app_l, List.mem_append, List.mem_append] at hd
    rcases hd with (hd | hd) | hd
    · exact sz d (cutS_mem hd)
    · simp at hd; subst hd; exact ⟨c0, c1⟩
    · exact sz d (cutS_mem hd)
  intro _
  k_ownIn
  rename_i n w2 n0 n1
  refine r_lcR1 (fun D i acc H' => (∃ w', H' l = some (W3.o w') ∧ Kp l H H') ∧ ∃ zs : List Str, acc = zs.map V.str ∧ ∀ z ∈ zs, ∃ c, z = ⟨#[c]⟩ ∧ 97 ≤ c ∧ c ≤ 122) (by omega) (by omega) (fun x => rfl) ?_ ?_ ?_
  · intro D hD
    exact ⟨⟨w2, by kcj_m, by k_subL⟩, [], rfl, fun z hz => absurd hz List.not_mem_nil⟩
  · rintro D i acc H' Q' nD hi hD ⟨⟨w', hl', kp'⟩, zs, rfl, hz⟩ hq
    k_ownIn
    rename_i c w3 c0 c1
    obtain ⟨d, hd, d0, d1⟩ := letter_at c0 c1
    refine r_ixS (by decide +kernel) hd ?_
    refine hq _ _ (by kcj_m) ⟨⟨w3, by kcj_m, by k_subL⟩, zs ++ [⟨#[d]⟩], by simp, fun z hz' => ?_⟩
    rw [List.mem_append] at hz'
    rcases hz' with hz' | hz'
    · exact hz z hz'
    · simp at hz'; subst hz'; exact ⟨d, rfl, d0, d1⟩
  · rintro D acc H' hD hD' hlen ⟨⟨w', hl', kp'⟩, zs, rfl, hz⟩
    rw [List.length_map] at hlen
    obtain ⟨nz, sz⟩ := one_name hlen (by omega) (by omega) hz
    k_ownIn
    have e0 : ("" : Str).length = 0 := by decide +kernel
    refine r_join (ys := zs) (by k_places) (by rw [sz, hlen, e0]; omega) ?_
    exact q _ _ _ nz hl' kp'
theorem len_law_name {K : PySem.W.Frag} {vs : List V} {H : Hp} {Q : VK} {E : XK} (h : sp_law_name K vs H Q E) : vs.length = 1 := by
  first | (obtain ⟨rfl, _⟩ := h; rfl) | (obtain ⟨_, rfl, _⟩ := h; rfl) | (obtain ⟨_, _, rfl, _⟩ := h; rfl) | (obtain ⟨_, _, _, rfl, _⟩ := h; rfl) | (obtain ⟨_, _, _, _, rfl, _⟩ := h; rfl) | (obtain ⟨_, _, _, _, _, rfl, _⟩ := h; rfl) | (obtain ⟨_, _, _, _, _, _, rfl, _⟩ := h; rfl) | (obtain ⟨_, _, _, _, _, _, _, rfl, _⟩ := h; rfl) | (obtain ⟨_, _, _, _, _, _, _, _, rfl, _⟩ := h; rfl) | (obtain ⟨_, _, _, _, _, _, _, _, _, rfl, _⟩ := h; rfl) | (obtain ⟨_, _, _, _, _, _, _, _, _, _, rfl, _⟩ := h; rfl) | (obtain ⟨_, _, _, _, _, _, _, _, _, _, _, rfl, _⟩ := h; rfl) | (obtain ⟨_, _, _, _, _, _, _, _, _, _, _, _, rfl, _⟩ := h; rfl) | (obtain ⟨_, _, _, _, _, _, _, _, _, _, _, _, _, rfl, _⟩ := h; rfl)
/-! ### _law_names -/
def sp_law_names (K : PySem.W.Frag) : Sp := fun vs H Q _ => ∃ (l : Addr) (w : W3) (m : Int), vs = [.ref l, .int m] ∧ H l = some w.o ∧ 1 ≤ m ∧ m ≤ 100 ∧ ∀ (p : Addr) (zs : List Str) (w' : W3) (H' : Hp), 1 ≤ zs.length → zs.length ≤ m.toNat → (∀ z ∈ zs, nameS z = true) → zs.Nodup → H p = none → H' p = some (.lst (zs.map V.str)) → H' l = some (W3.o w') → Kp l H H' → Q (.ref p) H'
theorem sp_law_names_use {K : PySem.W.Frag} {H : Hp} {Q : VK} {E : XK} {l : Addr} {w : W3} {m : Int} (h : H l = some w.o) (h0 : 1 ≤ m) (h1 : m ≤ 100)
    (q : ∀ (p : Addr) (zs : List Str) (w' : W3) (H' : Hp), 1 ≤ zs.length → zs.length ≤ m.toNat → (∀ z ∈ zs, nameS z = true) → zs.Nodup → H p = none → H' p = some (.lst (zs.map V.str)) → H' l = some (W3.o w') → Kp l H H' → Q (.ref p) H') : sp_law_names K [.ref l, .int m] H Q E := ⟨l, w, m, rfl, h, h0, h1, q⟩
local macro_rules | `(tactic| kas_types) => `(tactic| ((with_reducible refine' sp_law_names_use ?h ?h0 ?h1 (fun p zs w' H' lz1 lz nz dz np hp hl kp => ?_)); (case h => kcj_m); (case h0 => omega); (case h1 => omega)))
def t_law_names (K : PySem.W.Frag) : TS :=
  (tSeq (tAsg (tLst tNil) (gName 2))
    (tSeq (tFor (iRng1 (tCons (tOp (rI0 fun i j => .int (i + j)) (tC (.int 1)) (tCall (sp_law_next K) [] E0 (tCons (tVar 0) (tCons (tVar 1) tNil)))) tNil)) (gName 3)
    (tSeq (tAsg (tCall (sp_law_name K) [] E0 (tCons (tVar 0) tNil)) (gName 4))
    (tIfS (tTest (tOp (rIn K true) (tVar 4) (tVar 2))) (tDrop (tBM K "list" rAppend (tVar 2) (tCons (tVar 4) tNil))) tNext)))
    (tRet (tVar 2))))
theorem run_law_names {K : PySem.W.Frag} {vs : List V} {H : Hp} {Q : VK} {E : XK} (h : sp_law_names K vs H Q E) (hc : Hc K) (xc : Xc K) : t_law_names K (Ends.mk (fun _ H' => Q .non H') Q (fun _ _ => False) (fun _ _ => False)) (start ["_law_state", "_law_most", "_law_found", "_law_k", "_law_name_here"] vs) H := by
  obtain ⟨l, w, m, rfl, hl, h0, h1, q⟩ := h
  unfold t_law_names
  k_ownIn
  rename_i p hp n w1 n0 n1
  have hp0 : H p = none := by kd_p1
  refine r_loopR1 (fun i σ' H2 => (∃ v3 v4 : Option V, σ' = [some (.ref l), some (.int m), some (.ref p), v3, v4]) ∧ (∃ w', H2 l = some (W3.o w') ∧ Kp l H H2) ∧ ∃ ys : List Str, ys.length ≤ i ∧ (1 ≤ i → 1 ≤ ys.length) ∧ H2 p = some (.lst (ys.map V.str)) ∧ (∀ z ∈ ys, nameS z = true) ∧ ys.Nodup)
    (by omega) ⟨⟨_, _, rfl⟩, ⟨w1, by kcj_m, by k_subL⟩, [], Nat.le_refl _, fun z => absurd z (by decide), by show _ = some (HO.lst []); kcj_m, fun z hz => absurd hz List.not_mem_nil, List.nodup_nil⟩ ?_ ?_
  · rintro i σ' H2 N hi ⟨⟨v3, v4, rfl⟩, ⟨w', hl2, kp2⟩, ys, ly, ly1, hys, ny, dy⟩ hN
    k_ownIn
    rename_i z w2 H3 nz hl3 kp3
    have hp3 : H3 p = some (.lst (ys.map V.str)) := kp3 _ _ hys (Ne.symm (ne_of_none hl hp0))
    refine r_notInStr (zs := ys) (.inl (SqL.of hp3)) ?_
    k_ownIn
    by_cases hz : z ∈ ys
    · rw [decide_eq_true hz]
      k_ownIn
      exact hN _ _ ⟨⟨_, _, rfl⟩, ⟨w2, hl3, by k_subL⟩, ys, by omega, fun _ => List.length_pos_of_mem hz, hp3, ny, dy⟩
    · rw [decide_eq_false hz]
      k_ownIn
      refine r_app (xs := ys.map V.str) hp3 (by rw [List.length_map, sizeLine_eq]; omega) ?_
      k_ownIn
      refine hN _ _ ⟨⟨_, _, rfl⟩, ⟨w2, by rw [upd_ne (ne_of_none hl hp0)]; exact hl3, by k_subL⟩, ys ++ [z], by simp; omega, fun _ => by simp, by rw [List.map_append]; exact upd_same, fun y hy => ?_, ?_⟩
      · rcases List.mem_append.mp hy with hy | hy
        · exact ny y hy
        · rw [List.mem_singleton] at hy; subst hy; exact nz
      · rw [List.nodup_append]
        exact ⟨dy, by simp, fun a ha b hb => by rw [List.mem_singleton] at hb; subst hb; exact fun e => hz (e ▸ ha)⟩
  · rintro σ' H2 ⟨⟨v3, v4, rfl⟩, ⟨w', hl2, kp2⟩, ys, ly, ly1, hys, ny, dy⟩
    k_ownIn
    exact q p ys w' _ (ly1 (by omega)) (by omega) ny dy hp0 hys hl2 kp2
theorem len_law_names {K : PySem.W.Frag} {vs : List V} {H : Hp} {Q : VK} {E : XK} (h : sp_law_names K vs H Q E) : vs.length = 2 := by
  first | (obtain ⟨rfl, _⟩ := h; rfl) | (obtain ⟨_, rfl, _⟩ := h; rfl) | (obtain ⟨_, _, rfl, _⟩ := h; rfl) | (obtain ⟨_, _, _, rfl, _⟩ := h; rfl) | (obtain ⟨_, _, _, _, rfl, _⟩ := h; rfl) | (obtain ⟨_, _, _, _, _, rfl, _⟩ := h; rfl) | (obtain ⟨_, _, _, _, _, _, rfl, _⟩ := h; rfl) | (obtain ⟨_, _, _, _, _, _, _, rfl, _⟩ := h; rfl) | (obtain ⟨_, _, _, _, _, _, _, _, rfl, _⟩ := h; rfl) | (obtain ⟨_, _, _, _, _, _, _, _, _, rfl, _⟩ := h; rfl) | (obtain ⟨_, _, _, _, _, _, _, _, _, _, rfl, _⟩ := h; rfl) | (obtain ⟨_, _, _, _, _, _, _, _, _, _, _, rfl, _⟩ := h; rfl) | (obtain ⟨_, _, _, _, _, _, _, _, _, _, _, _, rfl, _⟩ := h; rfl) | (obtain ⟨_, _, _, _, _, _, _, _, _, _, _, _, _, rfl, _⟩ := h; rfl)
/-! ### is_name -/
def sp_is_name (K : PySem.W.Frag) : Sp := fun vs H Q _ => ∃ (v : V) (d : Dt), vs = [v] ∧ At K H v d ∧ d.short ∧ ∀ H', Same H H' → Q (.bl d.name) H'
theorem sp_name_use {K : PySem.W.Frag} {H : Hp} {Q : VK} {E : XK} {v : V} {d : Dt} (h : At K H v d) (s : d.short) (q : ∀ H', Same H H' → Q (.bl d.name) H') : sp_is_name K [v] H Q E := ⟨v, d, rfl, h, s, q⟩
local macro_rules | `(tactic| kas_types) => `(tactic| ((with_reducible refine' sp_name_use ?h ?s (fun H' sm => ?_)); (case h => kd_addB); (case s => (first | with_reducible assumption | exact trivial))))
theorem sp_name_y {K : PySem.W.Frag} {H : Hp} {Q : VK} {E : XK} {z : Str} (nz : nameS z = true) (q : ∀ H', Same H H' → Q (.bl true) H') : sp_is_name K [.str z] H Q E := ⟨_, .str z, rfl, .str z, Nat.le_trans (name_len nz).2 (by decide), fun H' s => by have := q H' s; rw [← nz] at this; exact this⟩
local macro_rules | `(tactic| kas_types) => `(tactic| ((with_reducible refine' sp_name_y ?h (fun H' sm => ?_)); (case h => with_reducible assumption)))
def t_is_name (K : PySem.W.Frag) : TS :=
  (tSeq (tIfS (tOr (tNot (tB (tCB (rIsi K) (tCons (tVar 0) (tCons (tC (.ty "str")) tNil))))) (tOr (tTest (tOp rEq (tVar 0) (tC (.str "")))) (tTest (tOp (rI0 fun i j => .bl (decide (j < i))) (tCB (rLen K) (tCons (tVar 0) tNil)) (tC (.int 8)))))) (tRet (tC (.bl false))) tNext)
    (tRet (tCB (rAll K) (tCons (tLc (iStr (tVar 0)) (gName 1) tYes (tOp rInC (tVar 1) (tC (.str "abcdefghijklmnopqrstuvwxyz"))) [1]) tNil))))
theorem run_is_name {K : PySem.W.Frag} {vs : List V} {H : Hp} {Q : VK} {E : XK} (h : sp_is_name K vs H Q E) (hc : Hc K) (xc : Xc K) : t_is_name K (Ends.mk (fun _ H' => Q .non H') Q (fun _ _ => False) (fun _ _ => False)) (start ["thing", "sign"] vs) H := by
  obtain ⟨v, d, rfl, h, l, q⟩ := h
  unfold t_is_name
  cases d with
  | str z =>
    have lz : z.length ≤ 100000 := l
    have lz2 : z.length ≤ sizeLine := by rw [sizeLine_eq]; omega
    cases h
    k_ownIn
    kpt_turns
    k_ownIn
    refine ite_d (fun he => ?_) (fun he => ?_)
    · k_ownIn
      have e : (Dt.str z).name = false := by show nameS z = false; unfold nameS; rw [decide_eq_true he]; rfl
      rw [e] at q
      exact q _ (Same.refl _)
    · k_ownIn
      refine ite_d (fun h8 => ?_) (fun h8 => ?_)
      · k_ownIn
        have e : (Dt.str z).name = false := name_long (by omega)
        rw [e] at q
        exact q _ (Same.refl _)
      · k_ownIn
        refine r_lcS (fun c => .bl (decide (c ∈ lettersS.cps.toList))) lz (fun x => rfl) ?_ ?_
        · intro c D acc Q' _ hD hq
          k_ownIn
          exact hq
        · intro D hD
          k_ownIn
          refine r_all (bs := z.cps.toList.map fun c => decide (c ∈ lettersS.cps.toList)) (SqL.of (by rw [List.map_map]; exact upd_same)) ?_
          have e : (z.cps.toList.map fun c => decide (c ∈ lettersS.cps.toList)).all id = (Dt.str z).name := by
            show _ = nameS z
            unfold nameS
            rw [decide_eq_false he, decide_eq_true (by omega : z.length ≤ 8), List.all_map]
            rfl
          rw [e]
          exact q _ (by k_subL)
  | _ =>
    k_ownIn
    exact q _ (Same.refl _)
theorem len_is_name {K : PySem.W.Frag} {vs : List V} {H : Hp} {Q : VK} {E : XK} (h : sp_is_name K vs H Q E) : vs.length = 1 := by
  first | (obtain ⟨rfl, _⟩ := h; rfl) | (obtain ⟨_, rfl, _⟩ := h; rfl) | (obtain ⟨_, _, rfl, _⟩ := h; rfl) | (obtain ⟨_, _, _, rfl, _⟩ := h; rfl) | (obtain ⟨_, _, _, _, rfl, _⟩ := h; rfl) | (obtain ⟨_, _, _, _, _, rfl, _⟩ := h; rfl) | (obtain ⟨_, _, _, _, _, _, rfl, _⟩ := h; rfl) | (obtain ⟨_, _, _, _, _, _, _, rfl, _⟩ := h; rfl) | (obtain ⟨_, _, _, _, _, _, _, _, rfl, _⟩ := h; rfl) | (obtain ⟨_, _, _, _, _, _, _, _, _, rfl, _⟩ := h; rfl) | (obtain ⟨_, _, _, _, _, _, _, _, _, _, rfl, _⟩ := h; rfl) | (obtain ⟨_, _, _, _, _, _, _, _, _, _, _, rfl, _⟩ := h; rfl) | (obtain ⟨_, _, _, _, _, _, _, _, _, _, _, _, rfl, _⟩ := h; rfl) | (obtain ⟨_, _, _, _, _, _, _, _, _, _, _, _, _, rfl, _⟩ := h; rfl)
/-! ### Happening.__init__ -/
def sp_Happening_init (K : PySem.W.Frag) : Sp := fun vs H Q E => ∃ (x dx : Addr) (vk vp vw : V) (k p w : Dt), vs = [.ref x, vk, vp, vw] ∧ H x = some (.ins (ga K "Happening") dx []) ∧ At K H vk k ∧ At K H vp p ∧ At K H vw w ∧ k.short ∧ p.short ∧
  ((k.name && (p.name && w.wt)) = true → ∀ H', Kp x H H' → H' x = some (.ins (ga K "Happening") dx [("kind", vk), ("place", vp), ("weight", vw)]) → Q .non H') ∧
  ((k.name && (p.name && w.wt)) = false → ∀ H', Same H H' → E (.ref (ga K "NoHappening")) none H')
theorem mk_Happening {K : PySem.W.Frag} {H : Hp} {P : Hp → Prop} {E : XK} {x dx : Addr} {k p : Str} {w : Int} (nk : nameS k = true) (np : nameS p = true) (w0 : 0 ≤ w) (nx : H x = none) (nd : H dx = none ∧ dx ≠ x) (q : ∀ H', Same H H' → H' x = some (.ins (ga K "Happening") dx [("kind", .str k), ("place", .str p), ("weight", .int w)]) → P H') :
    sp_Happening_init K [.ref x, .str k, .str p, .int w] (upd (upd H dx (.own x)) x (.ins (ga K "Happening") dx [])) (fun v H2 => v = .non ∧ P H2) E :=
  ⟨x, dx, _, _, _, .str k, .str p, .int w, rfl, upd_same, .str _, .str _, .int _, Nat.le_trans (name_len nk).2 (by decide), Nat.le_trans (name_len np).2 (by decide), fun _ H' kp hx => ⟨rfl, q H' (same_made nx nd.1 kp) hx⟩,
    fun h => by
      have e : ((Dt.str k).name && ((Dt.str p).name && (Dt.int w).wt)) = true := by
        show (nameS k && (nameS p && decide (0 ≤ w))) = true
        rw [nk, np, decide_eq_true w0]; rfl
      rw [e] at h; cases h⟩
local macro_rules | `(tactic| kas_types) => `(tactic| ((with_reducible refine' mk_Happening ?h1 ?h2 ?h3 ?nx ?nd (fun H' sm hx => ?_)); (case h1 => assumption); (case h2 => assumption); (case h3 => omega); (case nx => assumption); (case nd => assumption)))
def t_Happening_init (K : PySem.W.Frag) (E : XK) : TS :=
  (tSeq (tIfS (tOr (tNot (tB (tCall (sp_is_name K) [] E0 (tCons (tVar 1) tNil)))) (tOr (tNot (tB (tCall (sp_is_name K) [] E0 (tCons (tVar 2) tNil)))) (tNot (tB (tCall (sp_is_weight K) [] E0 (tCons (tVar 3) tNil)))))) (tRaise E (ga K "NoHappening")) tNext)
    (tSeq (sFld K (tVar 0) (tVar 1) "kind")
    (tSeq (sFld K (tVar 0) (tVar 2) "place")
    (sFld K (tVar 0) (tVar 3) "weight"))))
theorem run_Happening_init {K : PySem.W.Frag} {vs : List V} {H : Hp} {Q : VK} {E : XK} (h : sp_Happening_init K vs H Q E) (hc : Hc K) (xc : Xc K) : t_Happening_init K E (Ends.mk (fun _ H' => Q .non H') Q (fun _ _ => False) (fun _ _ => False)) (start ["self", "kind", "place", "weight"] vs) H := by
  obtain ⟨x, dx, vk, vp, vw, k, p, w, rfl, hx, tk, tp, tw, lk, lp, q, b⟩ := h
  unfold t_Happening_init
  k_ownIn
  kpt_turns
  k_ownIn
  rename_i H1 s1
  refine ite_b (fun h1 => ?_) (fun h1 => ?_)
  · have h1 : k.name = false := by simpa using h1
    k_ownIn
    exact b (by rw [h1]; rfl) _ s1
  have h1 : k.name = true := by simpa using h1
  k_ownIn
  rename_i H2 s2
  refine ite_b (fun h2 => ?_) (fun h2 => ?_)
  · have h2 : p.name = false := by simpa using h2
    k_ownIn
    exact b (by rw [h1, h2]; rfl) _ (Same.trans s1 s2)
  have h2 : p.name = true := by simpa using h2
  k_ownIn
  refine ite_b (fun h3 => ?_) (fun h3 => ?_)
  · have h3 : w.wt = false := by simpa using h3
    k_ownIn
    exact b (by rw [h1, h2, h3]; rfl) _ (Same.trans s1 s2)
  have h3 : w.wt = true := by simpa using h3
  k_ownIn
  exact q (by rw [h1, h2, h3]; rfl) _ (by k_subL) upd_same
theorem len_Happening_init {K : PySem.W.Frag} {vs : List V} {H : Hp} {Q : VK} {E : XK} (h : sp_Happening_init K vs H Q E) : vs.length = 4 := by
  first | (obtain ⟨rfl, _⟩ := h; rfl) | (obtain ⟨_, rfl, _⟩ := h; rfl) | (obtain ⟨_, _, rfl, _⟩ := h; rfl) | (obtain ⟨_, _, _, rfl, _⟩ := h; rfl) | (obtain ⟨_, _, _, _, rfl, _⟩ := h; rfl) | (obtain ⟨_, _, _, _, _, rfl, _⟩ := h; rfl) | (obtain ⟨_, _, _, _, _, _, rfl, _⟩ := h; rfl) | (obtain ⟨_, _, _, _, _, _, _, rfl, _⟩ := h; rfl) | (obtain ⟨_, _, _, _, _, _, _, _, rfl, _⟩ := h; rfl) | (obtain ⟨_, _, _, _, _, _, _, _, _, rfl, _⟩ := h; rfl) | (obtain ⟨_, _, _, _, _, _, _, _, _, _, rfl, _⟩ := h; rfl) | (obtain ⟨_, _, _, _, _, _, _, _, _, _, _, rfl, _⟩ := h; rfl) | (obtain ⟨_, _, _, _, _, _, _, _, _, _, _, _, rfl, _⟩ := h; rfl) | (obtain ⟨_, _, _, _, _, _, _, _, _, _, _, _, _, rfl, _⟩ := h; rfl)
/-! ### _law_odd -/
def OddF (n : Int) (d : Dt) : Prop := madeB n d = false ∧ d.shortL ∧ d.few
theorem nb_mem {ds : List Dt} {d : Dt} (h : d ∈ ds) (b : d.name = false) : (Dt.lst ds).namesN = false := by
  have e : ds.all Dt.name = false := by
    cases z : ds.all Dt.name with
    | false => rfl
    | true => rw [List.all_eq_true.mp z d h] at b; cases b
  show ((ds.all Dt.name && _) && _) = false
  rw [e]; rfl
theorem nb_dup {zs : List Str} (h : ¬ zs.Nodup) : (Dt.lst (zs.map Dt.str)).namesN = false := by
  show (((zs.map Dt.str).all Dt.name && decide ((strsOf (zs.map Dt.str)).Nodup)) && _) = false
  rw [strsOf_map, decide_eq_false h, Bool.and_false]; rfl
theorem odd12 {n : Int} {d : Dt} (hn : n = 1 ∨ n = 2) (h : d.namesN = false) (sl : d.shortL) (few : d.few) : OddF n d := ⟨by unfold madeB; rw [if_pos hn]; exact h, sl, few⟩
theorem odd3 {d : Dt} (h : d.wt = false) (sl : d.shortL) (few : d.few) : OddF 3 d := ⟨h, sl, few⟩
theorem odd4 {d : Dt} (h : d.isA "Fit" = false) (sl : d.shortL) (few : d.few) : OddF 4 d := ⟨h, sl, few⟩
theorem odd56 {n : Int} {d : Dt} (hn : n = 5 ∨ n = 6) (h : d.fits2 = false) (sl : d.shortL) (few : d.few) : OddF n d := ⟨by unfold madeB; rw [if_neg (by omega), if_neg (by omega), if_neg (by omega)]; exact h, sl, few⟩
theorem fits2_no {ds : List Dt} (d : Dt) (h : d ∈ ds) (b : d.isA "Fit" = false) : (Dt.lst ds).fits2 = false := by
  have e : ds.all (Dt.isA "Fit") = false := by
    cases z : ds.all (Dt.isA "Fit") with
    | false => rfl
    | true => rw [List.all_eq_true.mp z d h] at b; cases b
  show (_ && ds.all (Dt.isA "Fit")) = false
  rw [e, Bool.and_false]
theorem cut_last {zs : List Str} (h : 1 ≤ zs.length) : cutV (zs.map V.str) (some (-1)) none = (zs.drop (zs.length - 1)).map V.str := by
  unfold cutV
  have e1 : HT.sIx (zs.map V.str).length 0 (some (-1)) = zs.length - 1 := by
    unfold HT.sIx
    dsimp only
    rw [if_pos (by decide), List.length_map]
    omega
  have e2 : HT.sIx (zs.map V.str).length (zs.map V.str).length none = zs.length := by
    show (zs.map V.str).length = _
    rw [List.length_map]
  rw [e1, e2, ← List.map_drop, List.take_of_length_le (by rw [List.length_map, List.length_drop]; omega)]
theorem cut_first {zs : List Str} (h : 1 ≤ zs.length) : cutV (zs.map V.str) none (some 1) = (zs.take 1).map V.str := by
  unfold cutV
  have e1 : HT.sIx (zs.map V.str).length 0 none = 0 := rfl
  have e2 : HT.sIx (zs.map V.str).length (zs.map V.str).length (some 1) = 1 := by
    unfold HT.sIx
    dsimp only
    rw [if_neg (by decide), List.length_map]
    show min 1 zs.length = 1
    omega
  rw [e1, e2, List.drop_zero, ← List.map_take]
theorem dup_last {zs : List Str} (h : 1 ≤ zs.length) : ¬ (zs ++ zs.drop (zs.length - 1)).Nodup := fun n => by
  rw [List.nodup_append] at n
  have hl : zs.length - 1 < zs.length := by omega
  have e : zs.drop (zs.length - 1) = zs[zs.length - 1] :: zs.drop (zs.length - 1 + 1) := List.drop_eq_getElem_cons hl
  exact n.2.2 _ (List.getElem_mem hl) _ (by rw [e]; exact List.mem_cons_self) rfl
theorem dup_first {zs : List Str} (h : 1 ≤ zs.length) : ¬ (zs.take 1 ++ zs).Nodup := fun n => by
  rw [List.nodup_append] at n
  cases zs with
  | nil => exact absurd h (by decide)
  | cons z r => exact n.2.2 z (by simp) z List.mem_cons_self rfl
def sp_law_odd (K : PySem.W.Frag) : Sp := fun vs H Q _ => ∃ (n : Int) (a l : Addr) (u : HO) (zs : List Str) (m : Int) (vf : V) (fs : List (Str × Dt)), vs = [.int n, .ref a, .int m, vf] ∧ 1 ≤ n ∧ n ≤ 6 ∧ H l = some u ∧ a ≠ l ∧ H a = some (.lst (zs.map V.str)) ∧ 1 ≤ zs.length ∧ zs.length ≤ 100 ∧
  (∀ z ∈ zs, nameS z = true) ∧ 0 ≤ m ∧ m ≤ 1000000 ∧ At K (del H l) vf (.obj "Not" fs) ∧
  ∀ (p : Addr) (xs : List V) (H' : Hp), Same H H' → H' p = some (.lst xs) → H p = none → 1 ≤ xs.length → xs.length ≤ 30 → (∀ v ∈ xs, ∃ d, At K (del H' l) v d ∧ OddF n d) → Q (.ref p) H'
def t_law_odd (K : PySem.W.Frag) : TS :=
  (tSeq (tIfS (tTest (tOp (rI0 fun i j => .bl (decide (i < j))) (tVar 0) (tC (.int 3)))) (tSeq (tAsg (tLst (tCons (tC (.str "")) (tCons (tC (.str "A")) (tCons (tOp rCatS (tOp (rIx K) (tVar 1) (tC (.int 0))) (tC (.str " "))) (tCons (tC .non) (tCons (tC (.int 5)) (tCons (tC (.bl true)) (tCons (tLst (tCons (tOp (rIx K) (tVar 1) (tC (.int 0))) tNil)) tNil)))))))) (gName 4))
    (tSeq (tAsg (tOp rCat (tLc (iList K (tVar 4)) (gName 6) tYes (tOp rCat (tVar 1) (tLst (tCons (tVar 6) tNil))) [6]) (tLc (iList K (tVar 4)) (gName 6) tYes (tOp rCat (tLst (tCons (tVar 6) tNil)) (tVar 1)) [6])) (gName 5))
    (tRet (tOp rCat (tVar 5) (tLst (tCons (tLst tNil) (tCons (tCB (rTupOf K) (tCons (tVar 1) tNil)) (tCons (tOp (rIx K) (tVar 1) (tC (.int 0))) (tCons (tC .non) (tCons (tC (.int 7)) (tCons tDNewK (tCons (tOp rCat (tVar 1) (tSl (rSlL K) (tVar 1) (tPart (tUn (rU fun i => .int (-i)) (tC (.int 1)))) tNoPart)) (tCons (tOp rCat (tSl (rSlL K) (tVar 1) tNoPart (tPart (tC (.int 1)))) (tVar 1)) (tCons (tVar 3) tNil)))))))))))))) tNext)
    (tSeq (tIfS (tTest (tOp rEq (tVar 0) (tC (.int 3)))) (tRet (tLst (tCons (tUn (rU fun i => .int (-i)) (tC (.int 1))) (tCons (tOp (rI0 fun i j => .int (i - j)) (tUn (rU fun i => .int (-i)) (tC (.int 1))) (tVar 2)) (tCons (tC (.bl true)) (tCons (tC (.bl false)) (tCons (tC .non) (tCons (tCB rStrI (tCons (tVar 2) tNil)) (tCons (tLst (tCons (tVar 2) tNil)) (tCons (tTup (tCons (tVar 2) tNil)) (tCons (tVar 1) (tCons (tVar 3) tNil)))))))))))) tNext)
    (tSeq (tIfS (tTest (tOp rEq (tVar 0) (tC (.int 4)))) (tRet (tLst (tCons (tC .non) (tCons (tC (.str "any")) (tCons (tC (.int 5)) (tCons (tC (.bl true)) (tCons (tLst (tCons (tVar 3) tNil)) (tCons (tTup (tCons (tVar 3) tNil)) (tCons (tVar 1) (tCons (tOp (rIx K) (tVar 1) (tC (.int 0))) (tCons (tMake (ga K "Happening") (sp_Happening_init K) [] E0 (tCons (tOp (rIx K) (tVar 1) (tC (.int 0))) (tCons (tOp (rIx K) (tVar 1) (tC (.int 0))) (tCons (tVar 2) tNil)))) (tCons tDNewK tNil)))))))))))) tNext)
    (tSeq (tAsg (tLst (tCons (tLst tNil) (tCons (tLst (tCons (tVar 3) tNil)) (tCons (tTup (tCons (tVar 3) (tCons (tVar 3) tNil))) (tCons (tVar 3) (tCons (tC .non) (tCons (tC (.str "any")) (tCons (tC (.int 5)) (tCons tDNewK (tCons (tLst (tCons (tC .non) (tCons (tVar 3) tNil))) (tCons (tLst (tCons (tVar 3) (tCons (tC .non) tNil))) (tCons (tLst (tCons (tVar 3) (tCons (tC (.str "any")) tNil))) (tCons (tLst (tCons (tVar 3) (tCons (tVar 3) (tCons (tC (.int 5)) tNil)))) tNil))))))))))))) (gName 5))
    (tRet (tOp rCat (tVar 5) (tLst (tCons (tLst (tCons (tVar 3) (tCons (tLst (tCons (tVar 3) (tCons (tVar 3) tNil))) tNil))) (tCons (tLst (tCons (tVar 3) (tCons (tOp (rIx K) (tVar 1) (tC (.int 0))) (tCons (tVar 3) tNil)))) (tCons (tLst (tCons (tVar 3) (tCons (tMake (ga K "Happening") (sp_Happening_init K) [] E0 (tCons (tOp (rIx K) (tVar 1) (tC (.int 0))) (tCons (tOp (rIx K) (tVar 1) (tC (.int 0))) (tCons (tVar 2) tNil)))) tNil))) tNil))))))))))
theorem run_law_odd {K : PySem.W.Frag} {vs : List V} {H : Hp} {Q : VK} {E : XK} (h : sp_law_odd K vs H Q E) (hc : Hc K) (xc : Xc K) : t_law_odd K (Ends.mk (fun _ H' => Q .non H') Q (fun _ _ => False) (fun _ _ => False)) (start ["_law_at", "_law_names_here", "_law_weight", "_law_fit", "_law_bad", "_law_odd_here", "_law_one"] vs) H := by
  obtain ⟨n, a, l, u, zs, m, vf, fs, rfl, n0, n1, hl, nal, ha, l1, l2, nz, m0, m1, hf, q⟩ := h
  unfold t_law_odd
  have c4 : n ≤ 2 ∨ n = 3 ∨ n = 4 ∨ 5 ≤ n := by omega
  obtain ⟨z0, zt, rfl⟩ : ∃ z0 zt, zs = z0 :: zt := by
    cases zs with
    | nil => exact absurd l1 (by decide)
    | cons z0 zt => exact ⟨z0, zt, rfl⟩
  have nz0 := nz z0 List.mem_cons_self
  have lz0 : z0.length ≤ 8 := (name_len nz0).2
  have i0 : atI ((z0 :: zt).map V.str) 0 = some (.str z0) := ix_some (n := 0) rfl rfl
  rcases c4 with c | rfl | rfl | c
  · k_ownIn
    refine r_ixL (SqL.of ha) i0 ?_
    k_ownIn
    refine r_ixL (SqL.of ha) i0 ?_
    k_ownIn
    rename_i p1 hp1 pb hpb
    have hn : n = 1 ∨ n = 2 := by omega
    have sB : Same H (upd (upd H p1 (.lst [V.str z0])) pb (.lst [V.str "", V.str "A", V.str (z0 ++ " "), V.non, V.int 5, V.bl true, V.ref p1])) := by k_subL
    have hB : upd (upd H p1 (.lst [V.str z0])) pb (.lst [V.str "", V.str "A", V.str (z0 ++ " "), V.non, V.int 5, V.bl true, V.ref p1]) pb = some (.lst [V.str "", V.str "A", V.str (z0 ++ " "), V.non, V.int 5, V.bl true, V.ref p1]) := upd_same
    have bad : ∀ x ∈ [V.str "", V.str "A", V.str (z0 ++ " "), V.non, V.int 5, V.bl true, V.ref p1], ∃ d, At K (del (upd (upd H p1 (.lst [V.str z0])) pb (.lst [V.str "", V.str "A", V.str (z0 ++ " "), V.non, V.int 5, V.bl true, V.ref p1])) l) x d ∧ OddN d := by
      intro x hx
      simp only [List.mem_cons, List.not_mem_nil, or_false] at hx
      rcases hx with rfl | rfl | rfl | rfl | rfl | rfl | rfl
      · exact ⟨.str _, .str _, by decide +kernel, by show (_ : Str).length ≤ _; decide +kernel⟩
      · exact ⟨.str _, .str _, by decide +kernel, by show (_ : Str).length ≤ _; decide +kernel⟩
      · refine ⟨.str _, .str _, odd_cat (c := 32) (.inr (by decide +kernel)) (by decide), ?_⟩
        show (z0 ++ " ").length ≤ _
        rw [app_len]
        have : (" " : Str).length = 1 := by decide +kernel
        omega
      · exact ⟨.non, .non, rfl, trivial⟩
      · exact ⟨.int 5, .int 5, rfl, trivial⟩
      · exact ⟨.bl true, .bl true, rfl, trivial⟩
      · exact ⟨.lst [.str z0], by kd_addB, rfl, trivial⟩
    have haB := sB _ _ ha
    have hlB := sB _ _ hl
    have npl : pb ≠ l := Ne.symm (ne_of_none (by kcj_m) hpb)
    generalize hbad : [V.str "", V.str "A", V.str (z0 ++ " "), V.non, V.int 5, V.bl true, V.ref p1] = bs at hB bad sB haB hlB
    have lb : bs.length = 7 := by rw [← hbad]; rfl
    generalize upd (upd H p1 (.lst [V.str z0])) pb (.lst bs) = HB at hB bad sB haB hlB
    clear hbad hpb hp1
    generalize hzs : z0 :: zt = zs at *
    have one : ∀ (d : Dt), OddN d → OddF n (.lst (zs.map Dt.str ++ [d])) ∧ OddF n (.lst ([d] ++ zs.map Dt.str)) := by
      intro d od
      have sh : ∀ e ∈ zs.map Dt.str, e.short := (shortL_names (by omega) nz).2
      have len1 : (zs.map Dt.str ++ [d]).length ≤ 1000 := by rw [List.length_append, List.length_map]; show _ + 1 ≤ _; omega
      have len2 : ([d] ++ zs.map Dt.str).length ≤ 1000 := by rw [List.length_append, List.length_map]; show 1 + _ ≤ _; omega
      refine ⟨odd12 hn (nb_mem (List.mem_append_right _ List.mem_cons_self) od.1) ⟨len1, fun e he => ?_⟩ len1, odd12 hn (nb_mem (List.mem_append_left _ List.mem_cons_self) od.1) ⟨len2, fun e he => ?_⟩ len2⟩
      · rcases List.mem_append.mp he with he | he
        · exact sh e he
        · rw [List.mem_singleton] at he; subst he; exact od.2
      · rcases List.mem_append.mp he with he | he
        · rw [List.mem_singleton] at he; subst he; exact od.2
        · exact sh e he
    refine r_lcL (fun D i acc H' => Same HB H' ∧ ∀ v ∈ acc, ∃ d, At K (del (del H' D) l) v d ∧ OddF n d) (SqL.of hB) (by rw [lb]; decide) (fun x => rfl) ?_ ?_ ?_ ?_
    · intro D hD
      exact ⟨by k_subL, fun v hv => absurd hv List.not_mem_nil⟩
    · rintro D i acc H' ⟨s, _⟩
      exact Same.seq s (SqL.of hB)
    · rintro D i x acc H' Q' nD hx hacc ⟨s, hA⟩ hq
      obtain ⟨d, hd, od⟩ := bad x (List.mem_of_getElem? hx)
      have ha2 := s _ _ haB
      have hl2 := s _ _ hlB
      have nDl : D ≠ l := Ne.symm (ne_of_none hlB nD)
      k_ownIn
      rename_i q1 hq1
      refine r_cat (by kcj_m) upd_same (by rw [List.length_map, sizeLine_eq]; show _ + 1 ≤ _; omega) (fun r hr => ?_)
      have hr0 : H' r = none := by kd_p1
      have hr3 : upd (upd H' q1 (.lst [x])) r (.lst (zs.map V.str ++ [x])) D = some (.lst acc) := by kcj_m
      refine hq _ _ hr3 ⟨by k_subL, fun v hv => ?_⟩
      rcases List.mem_append.mp hv with hv | hv
      · obtain ⟨d2, h2, o2⟩ := hA v hv
        exact ⟨d2, h2.same (by k_subL), o2⟩
      · rw [List.mem_singleton] at hv
        subst hv
        have nrD : r ≠ D := Ne.symm (ne_of_none hacc hr0)
        have nrl : r ≠ l := Ne.symm (ne_of_none hl2 hr0)
        refine ⟨.lst (zs.map Dt.str ++ [d]), .lst (del_at (del_at (by rw [upd_ne nrD]; exact upd_same) nrD) nrl) (AtL.app .strs (.cons (hd.same ?_) .nil)), (one d od).1⟩
        k_subL
    rintro D acc HC nD hD hlen ⟨sC, hA⟩
    have hBC := sC _ _ hB
    have haC := sC _ _ haB
    have hlC := sC _ _ hlB
    have nDl : D ≠ l := Ne.symm (ne_of_none hlB nD)
    k_ownIn
    refine r_lcL (fun E i acc2 H' => Same HC H' ∧ ∀ v ∈ acc2, ∃ d, At K (del (del H' E) l) v d ∧ OddF n d) (SqL.of hBC) (by rw [lb]; decide) (fun x => rfl) ?_ ?_ ?_ ?_
    · intro E' hE
      exact ⟨by k_subL, fun v hv => absurd hv List.not_mem_nil⟩
    · rintro E' i acc2 H' ⟨s, _⟩
      exact Same.seq s (SqL.of hBC)
    · rintro E' i x acc2 H' Q' nE hx hacc ⟨s, hA2⟩ hq
      obtain ⟨d, hd, od⟩ := bad x (List.mem_of_getElem? hx)
      have ha2 := s _ _ haC
      have hl2 := s _ _ hlC
      have nEl : E' ≠ l := Ne.symm (ne_of_none hlC nE)
      k_ownIn
      rename_i q1 hq1
      refine r_cat upd_same (by kcj_m) (by rw [List.length_map, sizeLine_eq]; show 1 + _ ≤ _; omega) (fun r hr => ?_)
      have hr0 : H' r = none := by kd_p1
      have hr3 : upd (upd H' q1 (.lst [x])) r (.lst ([x] ++ zs.map V.str)) E' = some (.lst acc2) := by kcj_m
      refine hq _ _ hr3 ⟨by k_subL, fun v hv => ?_⟩
      rcases List.mem_append.mp hv with hv | hv
      · obtain ⟨d2, h2, o2⟩ := hA2 v hv
        exact ⟨d2, h2.same (by k_subL), o2⟩
      · rw [List.mem_singleton] at hv
        subst hv
        have nrE : r ≠ E' := Ne.symm (ne_of_none hacc hr0)
        have nrl : r ≠ l := Ne.symm (ne_of_none hl2 hr0)
        have nHB : HB E' = none := by kd_p1
        refine ⟨.lst ([d] ++ zs.map Dt.str), .lst (del_at (del_at (by rw [upd_ne nrE]; exact upd_same) nrE) nrl) (AtL.app (.cons (hd.same ?_) .nil) .strs), (one d od).2⟩
        k_subL
    rintro E' acc2 HE nE hE hlen2 ⟨sE, hA2⟩
    have hDE := sE _ _ hD
    have haE := sE _ _ haC
    have hlE := sE _ _ hlC
    refine r_cat hDE hE (by rw [hlen, hlen2, lb, sizeLine_eq]; decide) (fun r hr => ?_)
    k_ownIn
    rename_i e1 he1 t1 ht1
    refine r_ixL (by k_places) i0 ?_
    k_ownIn
    rename_i k1 hk1 c1 hc1
    rw [cut_last l1] at *
    refine r_cat (by kcj_m) (by kcj_m) (by rw [List.length_map, List.length_map, List.length_drop, sizeLine_eq]; omega) (fun j1 hj1 => ?_)
    k_ownIn
    rename_i c2 hc2
    rw [cut_first l1] at *
    refine r_cat (by kcj_m) (by kcj_m) (by rw [List.length_map, List.length_map, List.length_take, sizeLine_eq]; omega) (fun j2 hj2 => ?_)
    k_ownIn
    rename_i p6 hp6
    refine r_cat (xs := acc ++ acc2) (by kcj_m) (by kcj_m) (by rw [List.length_append, hlen, hlen2, lb, sizeLine_eq]; show _ + 9 ≤ _; omega) (fun p7 hp7 => ?_)
    have rE : Same HE HE := Same.refl HE
    have nzD : ∀ z ∈ zs ++ zs.drop (zs.length - 1), nameS z = true := fun z hz => nz z ((List.mem_append.mp hz).elim id List.mem_of_mem_drop)
    have nzF : ∀ z ∈ zs.take 1 ++ zs, nameS z = true := fun z hz => nz z ((List.mem_append.mp hz).elim List.mem_of_mem_take id)
    have nHl : H l ≠ none := by rw [hl]; exact fun z => by cases z
    have sHE : Same H HE := Same.trans (Same.trans sB sC) sE
    have sF : Same HE (upd (upd (upd (upd (upd (upd (upd (upd (upd HE r (.lst (acc ++ acc2))) e1 (.lst [])) t1 (.tup (zs.map V.str))) k1 (.dK [])) c1 (.lst ((zs.drop (zs.length - 1)).map V.str))) j1 (.lst (zs.map V.str ++ (zs.drop (zs.length - 1)).map V.str))) c2 (.lst ((zs.take 1).map V.str))) j2 (.lst ((zs.take 1).map V.str ++ zs.map V.str))) p6 (.lst [.ref e1, .ref t1, .str z0, .non, .int 7, .ref k1, .ref j1, .ref j2, vf])) := by k_subL
    refine q p7 _ _ (by k_subL) upd_same (none_same (Same.trans sHE sF) hp7) ?_ ?_ ?_
    · rw [List.length_append, List.length_append, hlen]; omega
    · rw [List.length_append, List.length_append, hlen, hlen2, lb]; show 7 + 7 + 9 ≤ 30; omega
    intro v hv
    have sG : Same HE (upd (upd (upd (upd (upd (upd (upd (upd (upd (upd HE r (.lst (acc ++ acc2))) e1 (.lst [])) t1 (.tup (zs.map V.str))) k1 (.dK [])) c1 (.lst ((zs.drop (zs.length - 1)).map V.str))) j1 (.lst (zs.map V.str ++ (zs.drop (zs.length - 1)).map V.str))) c2 (.lst ((zs.take 1).map V.str))) j2 (.lst ((zs.take 1).map V.str ++ zs.map V.str))) p6 (.lst [.ref e1, .ref t1, .str z0, .non, .int 7, .ref k1, .ref j1, .ref j2, vf])) p7 (.lst ((acc ++ acc2) ++ [.ref e1, .ref t1, .str z0, .non, .int 7, .ref k1, .ref j1, .ref j2, vf]))) := Same.new sF hp7
    have hlF := sF _ _ hlE
    have nl : ∀ {b : Addr} {X : Hp}, X l = some u → X b = none → b ≠ l := fun h k e => by rw [e, h] at k; cases k
    simp only [List.mem_append, List.mem_cons, List.not_mem_nil, or_false] at hv
    rcases hv with (hv | hv) | rfl | rfl | rfl | rfl | rfl | rfl | rfl | rfl | rfl
    · obtain ⟨d, hd, o⟩ := hA v hv
      refine ⟨d, hd.same ?_, o⟩
      exact kp_deld (Same.kp (Same.trans (kp_del (Kp.refl _ _)) (Same.trans sE sG)))
    · obtain ⟨d, hd, o⟩ := hA2 v hv
      refine ⟨d, hd.same ?_, o⟩
      exact kp_deld (Same.kp (Same.trans (kp_del (Kp.refl _ _)) sG))
    · exact ⟨.lst [], .lst (del_at (by kcj_m) (nl (by kcj_m) he1)) .nil, odd12 hn rfl ⟨by decide, fun d hd => absurd hd List.not_mem_nil⟩ (by show 0 ≤ 1000; omega)⟩
    · exact ⟨.tup (zs.map Dt.str), .tup (del_at (by kcj_m) (nl (by kcj_m) ht1)) .strs, odd12 hn rfl trivial trivial⟩
    · exact ⟨.str z0, .str z0, odd12 hn rfl trivial trivial⟩
    · exact ⟨.non, .non, odd12 hn rfl trivial trivial⟩
    · exact ⟨.int 7, .int 7, odd12 hn rfl trivial trivial⟩
    · exact ⟨.dct, .dct (del_at (by kcj_m) (nl (by kcj_m) hk1)), odd12 hn rfl trivial trivial⟩
    · refine ⟨.lst ((zs ++ zs.drop (zs.length - 1)).map Dt.str), .lst (del_at (by kcj_m) (nl (by kcj_m) hj1)) (by rw [List.map_append]; exact AtL.app .strs .strs), odd12 hn (nb_dup (dup_last l1)) (shortL_names (by rw [List.length_append, List.length_drop]; omega) nzD) ?_⟩
      show (List.map Dt.str _).length ≤ 1000
      rw [List.length_map, List.length_append, List.length_drop]; omega
    · refine ⟨.lst ((zs.take 1 ++ zs).map Dt.str), .lst (del_at (by kcj_m) (nl (by kcj_m) hj2)) (by rw [List.map_append]; exact AtL.app .strs .strs), odd12 hn (nb_dup (dup_first l1)) (shortL_names (by rw [List.length_append, List.length_take]; omega) nzF) ?_⟩
      show (List.map Dt.str _).length ≤ 1000
      rw [List.length_map, List.length_append, List.length_take]; omega
    · refine ⟨.obj "Not" fs, hf.same (kp_deld (Same.kp (Same.trans sHE sG))), odd12 hn rfl trivial trivial⟩
  · k_ownIn
    rename_i p1 hp1 p2 hp2 p3 hp3
    refine q p3 _ _ (by k_subL) upd_same (by kd_p1) (by show 1 ≤ 10; omega) (by show 10 ≤ 30; omega) ?_
    intro v hv
    simp only [List.mem_cons, List.not_mem_nil, or_false] at hv
    rcases hv with rfl | rfl | rfl | rfl | rfl | rfl | rfl | rfl | rfl | rfl
    · refine ⟨_, by kd_addB, ?_⟩
      exact odd3 rfl trivial trivial
    · refine ⟨_, by kd_addB, ?_⟩
      exact odd3 (decide_eq_false (by omega)) trivial trivial
    · refine ⟨_, by kd_addB, ?_⟩
      exact odd3 rfl trivial trivial
    · refine ⟨_, by kd_addB, ?_⟩
      exact odd3 rfl trivial trivial
    · refine ⟨_, by kd_addB, ?_⟩
      exact odd3 rfl trivial trivial
    · refine ⟨_, by kd_addB, ?_⟩
      exact odd3 rfl trivial trivial
    · exact ⟨.lst [.int m], by kd_addB, odd3 rfl ⟨by show 1 ≤ 1000; omega, fun d hd => by rw [List.mem_singleton] at hd; subst hd; trivial⟩ (by show 1 ≤ 1000; omega)⟩
    · exact ⟨.tup [.int m], by kd_addB, odd3 rfl trivial trivial⟩
    · exact ⟨.lst ((z0 :: zt).map Dt.str), .lst (by kcj_m) .strs, odd3 rfl (shortL_names (by omega) nz) (by show ((z0 :: zt).map Dt.str).length ≤ 1000; rw [List.length_map]; omega)⟩
    · refine ⟨_, by kd_addB, ?_⟩
      exact odd3 rfl trivial trivial
  · k_ownIn
    refine r_ixL (by k_places) i0 ?_
    k_ownIn
    refine r_ixL (by k_places) i0 ?_
    k_ownIn
    refine r_ixL (by k_places) i0 ?_
    k_ownIn
    rename_i q1 hq1 q2 hq2 y dy ny nd HH sh hy q3 hq3 q4 hq4
    refine q q4 _ _ (by k_subL) upd_same (by kd_p1) (by show 1 ≤ 10; omega) (by show 10 ≤ 30; omega) ?_
    intro v hv
    simp only [List.mem_cons, List.not_mem_nil, or_false] at hv
    have nl : ∀ {b : Addr} {X : Hp}, X l = some u → X b = none → b ≠ l := fun h k e => by rw [e, h] at k; cases k
    have n1 := nl hl hq1
    rcases hv with rfl | rfl | rfl | rfl | rfl | rfl | rfl | rfl | rfl | rfl
    · exact ⟨.non, .non, odd4 rfl trivial trivial⟩
    · exact ⟨.str _, .str _, odd4 rfl trivial trivial⟩
    · exact ⟨.int _, .int _, odd4 rfl trivial trivial⟩
    · exact ⟨.bl _, .bl _, odd4 rfl trivial trivial⟩
    · exact ⟨.lst [.obj "Not" fs], by kd_addB, odd4 rfl ⟨by show 1 ≤ 1000; omega, fun d hd => by rw [List.mem_singleton] at hd; subst hd; trivial⟩ (by show 1 ≤ 1000; omega)⟩
    · exact ⟨.tup [.obj "Not" fs], by kd_addB, odd4 rfl trivial trivial⟩
    · exact ⟨.lst ((z0 :: zt).map Dt.str), .lst (by kcj_m) .strs, odd4 rfl (shortL_names (by omega) nz) (by show ((z0 :: zt).map Dt.str).length ≤ 1000; rw [List.length_map]; omega)⟩
    · exact ⟨.str _, .str _, odd4 rfl trivial trivial⟩
    · refine ⟨.obj "Happening" [("kind", .str z0), ("place", .str z0), ("weight", .int m)], .obj (by kcj_m) (by decide +kernel) (.cons (.str _) (.cons (.str _) (.cons (.int _) .nil))), odd4 (by decide +kernel : isSub "Happening" "Fit" = false) trivial trivial⟩
    · exact ⟨.dct, by kd_addB, odd4 rfl trivial trivial⟩
  · k_ownIn
    rename_i a0 ha0 a1 ha1 a2 ha2 a3 ha3 a4 ha4 a5 ha5 a6 ha6 a7 ha7 ao hao b0 hb0 b1 hb1
    have hn : n = 5 ∨ n = 6 := by omega
    have fF : (Dt.obj "Not" fs).isA "Fit" = true := (by decide +kernel : isSub "Not" "Fit" = true)
    have o5 : ∀ {d : Dt}, d.fits2 = false → d.shortL → d.few → OddF n d := fun h sl few => odd56 hn h sl few
    have oL : ∀ {ds : List Dt}, (Dt.lst ds).fits2 = false → ds.length ≤ 100 → (∀ d ∈ ds, d.short) → OddF n (.lst ds) := fun h l sh => odd56 hn h ⟨by omega, sh⟩ (by show _ ≤ 1000; omega)
    have s11 : Same H (upd (upd (upd (upd (upd (upd (upd (upd (upd (upd (upd H a0 (.lst [])) a1 (.lst [vf])) a2 (.tup [vf, vf])) a3 (.dK [])) a4 (.lst [.non, vf])) a5 (.lst [vf, .non])) a6 (.lst [vf, .str "any"])) a7 (.lst [vf, vf, .int 5])) ao (.lst [.ref a0, .ref a1, .ref a2, vf, .non, .str "any", .int 5, .ref a3, .ref a4, .ref a5, .ref a6, .ref a7])) b0 (.lst [vf, vf])) b1 (.lst [vf, .ref b0])) := by k_subL
    have l11 := s11 _ _ hl
    have a11 := s11 _ _ ha
    have f11 : At K (del (upd (upd (upd (upd (upd (upd (upd (upd (upd (upd (upd H a0 (.lst [])) a1 (.lst [vf])) a2 (.tup [vf, vf])) a3 (.dK [])) a4 (.lst [.non, vf])) a5 (.lst [vf, .non])) a6 (.lst [vf, .str "any"])) a7 (.lst [vf, vf, .int 5])) ao (.lst [.ref a0, .ref a1, .ref a2, vf, .non, .str "any", .int 5, .ref a3, .ref a4, .ref a5, .ref a6, .ref a7])) b0 (.lst [vf, vf])) b1 (.lst [vf, .ref b0])) l) vf (.obj "Not" fs) := hf.same (kp_deld (Same.kp s11))
    have hao11 : (upd (upd (upd (upd (upd (upd (upd (upd (upd (upd (upd H a0 (.lst [])) a1 (.lst [vf])) a2 (.tup [vf, vf])) a3 (.dK [])) a4 (.lst [.non, vf])) a5 (.lst [vf, .non])) a6 (.lst [vf, .str "any"])) a7 (.lst [vf, vf, .int 5])) ao (.lst [.ref a0, .ref a1, .ref a2, vf, .non, .str "any", .int 5, .ref a3, .ref a4, .ref a5, .ref a6, .ref a7])) b0 (.lst [vf, vf])) b1 (.lst [vf, .ref b0])) ao = some (.lst [.ref a0, .ref a1, .ref a2, vf, .non, .str "any", .int 5, .ref a3, .ref a4, .ref a5, .ref a6, .ref a7]) := by kcj_m
    have hb011 : (upd (upd (upd (upd (upd (upd (upd (upd (upd (upd (upd H a0 (.lst [])) a1 (.lst [vf])) a2 (.tup [vf, vf])) a3 (.dK [])) a4 (.lst [.non, vf])) a5 (.lst [vf, .non])) a6 (.lst [vf, .str "any"])) a7 (.lst [vf, vf, .int 5])) ao (.lst [.ref a0, .ref a1, .ref a2, vf, .non, .str "any", .int 5, .ref a3, .ref a4, .ref a5, .ref a6, .ref a7])) b0 (.lst [vf, vf])) b1 (.lst [vf, .ref b0])) b0 = some (.lst [vf, vf]) := by kcj_m
    have hb111 : (upd (upd (upd (upd (upd (upd (upd (upd (upd (upd (upd H a0 (.lst [])) a1 (.lst [vf])) a2 (.tup [vf, vf])) a3 (.dK [])) a4 (.lst [.non, vf])) a5 (.lst [vf, .non])) a6 (.lst [vf, .str "any"])) a7 (.lst [vf, vf, .int 5])) ao (.lst [.ref a0, .ref a1, .ref a2, vf, .non, .str "any", .int 5, .ref a3, .ref a4, .ref a5, .ref a6, .ref a7])) b0 (.lst [vf, vf])) b1 (.lst [vf, .ref b0])) b1 = some (.lst [vf, .ref b0]) := upd_same
    have g0 : (upd (upd (upd (upd (upd (upd (upd (upd (upd (upd (upd H a0 (.lst [])) a1 (.lst [vf])) a2 (.tup [vf, vf])) a3 (.dK [])) a4 (.lst [.non, vf])) a5 (.lst [vf, .non])) a6 (.lst [vf, .str "any"])) a7 (.lst [vf, vf, .int 5])) ao (.lst [.ref a0, .ref a1, .ref a2, vf, .non, .str "any", .int 5, .ref a3, .ref a4, .ref a5, .ref a6, .ref a7])) b0 (.lst [vf, vf])) b1 (.lst [vf, .ref b0])) a0 = some (.lst []) := by kcj_m
    have g1 : (upd (upd (upd (upd (upd (upd (upd (upd (upd (upd (upd H a0 (.lst [])) a1 (.lst [vf])) a2 (.tup [vf, vf])) a3 (.dK [])) a4 (.lst [.non, vf])) a5 (.lst [vf, .non])) a6 (.lst [vf, .str "any"])) a7 (.lst [vf, vf, .int 5])) ao (.lst [.ref a0, .ref a1, .ref a2, vf, .non, .str "any", .int 5, .ref a3, .ref a4, .ref a5, .ref a6, .ref a7])) b0 (.lst [vf, vf])) b1 (.lst [vf, .ref b0])) a1 = some (.lst [vf]) := by kcj_m
    have g2 : (upd (upd (upd (upd (upd (upd (upd (upd (upd (upd (upd H a0 (.lst [])) a1 (.lst [vf])) a2 (.tup [vf, vf])) a3 (.dK [])) a4 (.lst [.non, vf])) a5 (.lst [vf, .non])) a6 (.lst [vf, .str "any"])) a7 (.lst [vf, vf, .int 5])) ao (.lst [.ref a0, .ref a1, .ref a2, vf, .non, .str "any", .int 5, .ref a3, .ref a4, .ref a5, .ref a6, .ref a7])) b0 (.lst [vf, vf])) b1 (.lst [vf, .ref b0])) a2 = some (.tup [vf, vf]) := by kcj_m
    have g3 : (upd (upd (upd (upd (upd (upd (upd (upd (upd (upd (upd H a0 (.lst [])) a1 (.lst [vf])) a2 (.tup [vf, vf])) a3 (.dK [])) a4 (.lst [.non, vf])) a5 (.lst [vf, .non])) a6 (.lst [vf, .str "any"])) a7 (.lst [vf, vf, .int 5])) ao (.lst [.ref a0, .ref a1, .ref a2, vf, .non, .str "any", .int 5, .ref a3, .ref a4, .ref a5, .ref a6, .ref a7])) b0 (.lst [vf, vf])) b1 (.lst [vf, .ref b0])) a3 = some (.dK []) := by kcj_m
    have g4 : (upd (upd (upd (upd (upd (upd (upd (upd (upd (upd (upd H a0 (.lst [])) a1 (.lst [vf])) a2 (.tup [vf, vf])) a3 (.dK [])) a4 (.lst [.non, vf])) a5 (.lst [vf, .non])) a6 (.lst [vf, .str "any"])) a7 (.lst [vf, vf, .int 5])) ao (.lst [.ref a0, .ref a1, .ref a2, vf, .non, .str "any", .int 5, .ref a3, .ref a4, .ref a5, .ref a6, .ref a7])) b0 (.lst [vf, vf])) b1 (.lst [vf, .ref b0])) a4 = some (.lst [.non, vf]) := by kcj_m
    have g5 : (upd (upd (upd (upd (upd (upd (upd (upd (upd (upd (upd H a0 (.lst [])) a1 (.lst [vf])) a2 (.tup [vf, vf])) a3 (.dK [])) a4 (.lst [.non, vf])) a5 (.lst [vf, .non])) a6 (.lst [vf, .str "any"])) a7 (.lst [vf, vf, .int 5])) ao (.lst [.ref a0, .ref a1, .ref a2, vf, .non, .str "any", .int 5, .ref a3, .ref a4, .ref a5, .ref a6, .ref a7])) b0 (.lst [vf, vf])) b1 (.lst [vf, .ref b0])) a5 = some (.lst [vf, .non]) := by kcj_m
    have g6 : (upd (upd (upd (upd (upd (upd (upd (upd (upd (upd (upd H a0 (.lst [])) a1 (.lst [vf])) a2 (.tup [vf, vf])) a3 (.dK [])) a4 (.lst [.non, vf])) a5 (.lst [vf, .non])) a6 (.lst [vf, .str "any"])) a7 (.lst [vf, vf, .int 5])) ao (.lst [.ref a0, .ref a1, .ref a2, vf, .non, .str "any", .int 5, .ref a3, .ref a4, .ref a5, .ref a6, .ref a7])) b0 (.lst [vf, vf])) b1 (.lst [vf, .ref b0])) a6 = some (.lst [vf, .str "any"]) := by kcj_m
    have g7 : (upd (upd (upd (upd (upd (upd (upd (upd (upd (upd (upd H a0 (.lst [])) a1 (.lst [vf])) a2 (.tup [vf, vf])) a3 (.dK [])) a4 (.lst [.non, vf])) a5 (.lst [vf, .non])) a6 (.lst [vf, .str "any"])) a7 (.lst [vf, vf, .int 5])) ao (.lst [.ref a0, .ref a1, .ref a2, vf, .non, .str "any", .int 5, .ref a3, .ref a4, .ref a5, .ref a6, .ref a7])) b0 (.lst [vf, vf])) b1 (.lst [vf, .ref b0])) a7 = some (.lst [vf, vf, .int 5]) := by kcj_m
    have hlo : ∀ {b : Addr}, H b = none → b ≠ l := fun h e => by rw [e, hl] at h; cases h
    have n0 := hlo (b := a0) (by kd_p1)
    have n1 := hlo (b := a1) (by kd_p1)
    have n2 := hlo (b := a2) (by kd_p1)
    have n3 := hlo (b := a3) (by kd_p1)
    have n4 := hlo (b := a4) (by kd_p1)
    have n5 := hlo (b := a5) (by kd_p1)
    have n6 := hlo (b := a6) (by kd_p1)
    have n7 := hlo (b := a7) (by kd_p1)
    have nb0 := hlo (b := b0) (by kd_p1)
    have nb1 := hlo (b := b1) (by kd_p1)
    generalize (upd (upd (upd (upd (upd (upd (upd (upd (upd (upd (upd H a0 (.lst [])) a1 (.lst [vf])) a2 (.tup [vf, vf])) a3 (.dK [])) a4 (.lst [.non, vf])) a5 (.lst [vf, .non])) a6 (.lst [vf, .str "any"])) a7 (.lst [vf, vf, .int 5])) ao (.lst [.ref a0, .ref a1, .ref a2, vf, .non, .str "any", .int 5, .ref a3, .ref a4, .ref a5, .ref a6, .ref a7])) b0 (.lst [vf, vf])) b1 (.lst [vf, .ref b0])) = HB at s11 l11 a11 f11 hao11 hb011 hb111 g0 g1 g2 g3 g4 g5 g6 g7
    clear ha0 ha1 ha2 ha3 ha4 ha5 ha6 ha7 hao hb0 hb1
    have sh1 : ∀ {ds : List Dt}, (∀ d ∈ ds, (∃ fs, d = .obj "Not" fs) ∨ d = .non ∨ d = .str "any" ∨ d = .int 5) → ∀ d ∈ ds, d.short := fun h d hd => by
      rcases h d hd with ⟨_, rfl⟩ | rfl | rfl | rfl
      · trivial
      · trivial
      · show ("any" : Str).length ≤ _; decide +kernel
      · trivial
    refine r_ixL (by k_places) i0 ?_
    k_ownIn
    refine r_ixL (by k_places) i0 ?_
    k_ownIn
    refine r_ixL (by k_places) i0 ?_
    k_ownIn
    rename_i c1 hc1 y dy ny nd HH sh hy c2 hc2 c3 hc3 c4 hc4
    refine q c4 _ _ (by k_subL) upd_same (by kd_p1) (by show 1 ≤ 15; omega) (by show 15 ≤ 30; omega) ?_
    have nc1 := hlo (b := c1) (by kd_p1)
    have nc2 := hlo (b := c2) (by kd_p1)
    have nyl := hlo (b := y) (by kd_p1)
    intro v hv
    simp only [List.cons_append, List.nil_append, List.mem_cons, List.not_mem_nil, or_false] at hv
    rcases hv with rfl | rfl | rfl | rfl | rfl | rfl | rfl | rfl | rfl | rfl | rfl | rfl | rfl | rfl | rfl
    · exact ⟨.lst [], .lst (del_at (by kcj_m) n0) .nil, oL (by decide +kernel) (by decide +kernel) (fun d hd => absurd hd List.not_mem_nil)⟩
    · exact ⟨.lst [.obj "Not" fs], .lst (del_at (by kcj_m) n1) (by kd_addW), oL rfl (by show 1 ≤ 100; omega) (sh1 (by simp))⟩
    · exact ⟨.tup [.obj "Not" fs, .obj "Not" fs], .tup (del_at (by kcj_m) n2) (by kd_addW), o5 rfl trivial trivial⟩
    · exact ⟨.obj "Not" fs, by kd_addB, o5 rfl trivial trivial⟩
    · exact ⟨.non, .non, o5 rfl trivial trivial⟩
    · exact ⟨.str _, .str _, o5 rfl trivial trivial⟩
    · exact ⟨.int _, .int _, o5 rfl trivial trivial⟩
    · exact ⟨.dct, .dct (del_at (by kcj_m) n3), o5 rfl trivial trivial⟩
    · exact ⟨.lst [.non, .obj "Not" fs], .lst (del_at (by kcj_m) n4) (by kd_addW), oL rfl (by show 2 ≤ 100; omega) (sh1 (by simp))⟩
    · exact ⟨.lst [.obj "Not" fs, .non], .lst (del_at (by kcj_m) n5) (by kd_addW), oL (fits2_no .non (by simp) rfl) (by show 2 ≤ 100; omega) (sh1 (by simp))⟩
    · exact ⟨.lst [.obj "Not" fs, .str "any"], .lst (del_at (by kcj_m) n6) (by kd_addW), oL (fits2_no (.str "any") (by simp) rfl) (by show 2 ≤ 100; omega) (sh1 (by simp))⟩
    · exact ⟨.lst [.obj "Not" fs, .obj "Not" fs, .int 5], .lst (del_at (by kcj_m) n7) (by kd_addW), oL (fits2_no (.int 5) (by simp) rfl) (by show 3 ≤ 100; omega) (sh1 (by simp))⟩
    · refine ⟨.lst [.obj "Not" fs, .lst [.obj "Not" fs, .obj "Not" fs]], .lst (del_at (by kcj_m) nb1) (.cons (by kd_addB) (.cons (.lst (del_at (by kcj_m) nb0) (by kd_addW)) .nil)), oL (fits2_no (.lst [.obj "Not" fs, .obj "Not" fs]) (by simp) rfl) (by show 2 ≤ 100; omega) (fun d hd => ?_)⟩
      simp only [List.mem_cons, List.not_mem_nil, or_false] at hd
      rcases hd with rfl | rfl <;> trivial
    · refine ⟨.lst [.obj "Not" fs, .str z0, .obj "Not" fs], .lst (del_at (by kcj_m) nc1) (by kd_addW), oL (fits2_no (.str z0) (by simp) rfl) (by show 3 ≤ 100; omega) (fun d hd => ?_)⟩
      simp only [List.mem_cons, List.not_mem_nil, or_false] at hd
      rcases hd with rfl | rfl | rfl
      · trivial
      · show z0.length ≤ 100000; omega
      · trivial
    · refine ⟨.lst [.obj "Not" fs, .obj "Happening" [("kind", .str z0), ("place", .str z0), ("weight", .int m)]], .lst (del_at (by kcj_m) nc2) (.cons (by kd_addB) (.cons (.obj (del_at (by kcj_m) nyl) (by decide +kernel) (.cons (.str _) (.cons (.str _) (.cons (.int _) .nil)))) .nil)), oL (fits2_no (.obj "Happening" [("kind", .str z0), ("place", .str z0), ("weight", .int m)]) (by simp) (by decide +kernel : isSub "Happening" "Fit" = false)) (by show 2 ≤ 100; omega) (fun d hd => ?_)⟩
      simp only [List.mem_cons, List.not_mem_nil, or_false] at hd
      rcases hd with rfl | rfl <;> trivial
theorem len_law_odd {K : PySem.W.Frag} {vs : List V} {H : Hp} {Q : VK} {E : XK} (h : sp_law_odd K vs H Q E) : vs.length = 4 := by
  first | (obtain ⟨rfl, _⟩ := h; rfl) | (obtain ⟨_, rfl, _⟩ := h; rfl) | (obtain ⟨_, _, rfl, _⟩ := h; rfl) | (obtain ⟨_, _, _, rfl, _⟩ := h; rfl) | (obtain ⟨_, _, _, _, rfl, _⟩ := h; rfl) | (obtain ⟨_, _, _, _, _, rfl, _⟩ := h; rfl) | (obtain ⟨_, _, _, _, _, _, rfl, _⟩ := h; rfl) | (obtain ⟨_, _, _, _, _, _, _, rfl, _⟩ := h; rfl) | (obtain ⟨_, _, _, _, _, _, _, _, rfl, _⟩ := h; rfl) | (obtain ⟨_, _, _, _, _, _, _, _, _, rfl, _⟩ := h; rfl) | (obtain ⟨_, _, _, _, _, _, _, _, _, _, rfl, _⟩ := h; rfl) | (obtain ⟨_, _, _, _, _, _, _, _, _, _, _, rfl, _⟩ := h; rfl) | (obtain ⟨_, _, _, _, _, _, _, _, _, _, _, _, rfl, _⟩ := h; rfl) | (obtain ⟨_, _, _, _, _, _, _, _, _, _, _, _, _, rfl, _⟩ := h; rfl)
/-! ### _law_kinds -/
def kindsL (d : Dt) : List V := [.bl (d.isA "Any"), .bl (d.isA "Kind"), .bl (d.isA "Place"), .bl (d.isA "Least")] ++ [.bl (d.isA "Not"), .bl (d.isA "Both"), .bl (d.isA "Either")]
def sp_law_kinds (K : PySem.W.Frag) : Sp := fun vs H Q _ => ∃ (v : V) (d : Dt), vs = [v] ∧ At K H v d ∧ ∀ p H', H p = none → H' p = some (.lst (kindsL d)) → Same H H' → Q (.ref p) H'
theorem sp_kinds_use {K : PySem.W.Frag} {H : Hp} {Q : VK} {E : XK} {v : V} {d : Dt} (h : At K H v d) (q : ∀ p H', H p = none → H' p = some (.lst (kindsL d)) → Same H H' → Q (.ref p) H') : sp_law_kinds K [v] H Q E := ⟨v, d, rfl, h, q⟩
def t_law_kinds (K : PySem.W.Frag) : TS :=
  (tSeq (tAsg (tLst (tCons (tCB (rIsi K) (tCons (tVar 0) (tCons (tC (.ref (ga K "Any"))) tNil))) (tCons (tCB (rIsi K) (tCons (tVar 0) (tCons (tC (.ref (ga K "Kind"))) tNil))) (tCons (tCB (rIsi K) (tCons (tVar 0) (tCons (tC (.ref (ga K "Place"))) tNil))) (tCons (tCB (rIsi K) (tCons (tVar 0) (tCons (tC (.ref (ga K "Least"))) tNil))) tNil))))) (gName 1))
    (tRet (tOp rCat (tVar 1) (tLst (tCons (tCB (rIsi K) (tCons (tVar 0) (tCons (tC (.ref (ga K "Not"))) tNil))) (tCons (tCB (rIsi K) (tCons (tVar 0) (tCons (tC (.ref (ga K "Both"))) tNil))) (tCons (tCB (rIsi K) (tCons (tVar 0) (tCons (tC (.ref (ga K "Either"))) tNil))) tNil)))))))
theorem run_law_kinds {K : PySem.W.Frag} {vs : List V} {H : Hp} {Q : VK} {E : XK} (h : sp_law_kinds K vs H Q E) (hc : Hc K) (xc : Xc K) : t_law_kinds K (Ends.mk (fun _ H' => Q .non H') Q (fun _ _ => False) (fun _ _ => False)) (start ["_law_fit", "_law_found"] vs) H := by
  obtain ⟨v, d, rfl, h, q⟩ := h
  unfold t_law_kinds
  cases d with
  | _ =>
    k_ownIn
    exact q _ _ (by kd_p1) upd_same (by k_subL)
theorem len_law_kinds {K : PySem.W.Frag} {vs : List V} {H : Hp} {Q : VK} {E : XK} (h : sp_law_kinds K vs H Q E) : vs.length = 1 := by
  first | (obtain ⟨rfl, _⟩ := h; rfl) | (obtain ⟨_, rfl, _⟩ := h; rfl) | (obtain ⟨_, _, rfl, _⟩ := h; rfl) | (obtain ⟨_, _, _, rfl, _⟩ := h; rfl) | (obtain ⟨_, _, _, _, rfl, _⟩ := h; rfl) | (obtain ⟨_, _, _, _, _, rfl, _⟩ := h; rfl) | (obtain ⟨_, _, _, _, _, _, rfl, _⟩ := h; rfl) | (obtain ⟨_, _, _, _, _, _, _, rfl, _⟩ := h; rfl) | (obtain ⟨_, _, _, _, _, _, _, _, rfl, _⟩ := h; rfl) | (obtain ⟨_, _, _, _, _, _, _, _, _, rfl, _⟩ := h; rfl) | (obtain ⟨_, _, _, _, _, _, _, _, _, _, rfl, _⟩ := h; rfl) | (obtain ⟨_, _, _, _, _, _, _, _, _, _, _, rfl, _⟩ := h; rfl) | (obtain ⟨_, _, _, _, _, _, _, _, _, _, _, _, rfl, _⟩ := h; rfl) | (obtain ⟨_, _, _, _, _, _, _, _, _, _, _, _, _, rfl, _⟩ := h; rfl)
/-! ### _law_is_kind -/
def kindsT : List Str := ["Any", "Kind", "Place", "Least", "Not", "Both", "Either"]
def kindsB (d : Dt) : List Bool := [d.isA "Any", d.isA "Kind", d.isA "Place", d.isA "Least", d.isA "Not", d.isA "Both", d.isA "Either"]
theorem kindsB_eq : ∀ n : Nat, n < 7 → ∀ C, kindsT[n]? = some C → [isSub C "Any", isSub C "Kind", isSub C "Place", isSub C "Least", isSub C "Not", isSub C "Both", isSub C "Either"] = (List.range 7).map (fun i : Nat => decide ((i : Int) = (n : Int))) := by
  intro n hn C hC
  unfold kindsT at hC
  match n, hn, hC with
  | 0, _, hC => cases hC; decide +kernel
  | 1, _, hC => cases hC; decide +kernel
  | 2, _, hC => cases hC; decide +kernel
  | 3, _, hC => cases hC; decide +kernel
  | 4, _, hC => cases hC; decide +kernel
  | 5, _, hC => cases hC; decide +kernel
  | 6, _, hC => cases hC; decide +kernel
theorem kind_fit : ∀ n : Nat, n < 7 → ∀ C, kindsT[n]? = some C → isSub C "Fit" = true := by
  intro n hn C hC
  unfold kindsT at hC
  match n, hn, hC with
  | 0, _, hC => cases hC; decide +kernel
  | 1, _, hC => cases hC; decide +kernel
  | 2, _, hC => cases hC; decide +kernel
  | 3, _, hC => cases hC; decide +kernel
  | 4, _, hC => cases hC; decide +kernel
  | 5, _, hC => cases hC; decide +kernel
  | 6, _, hC => cases hC; decide +kernel
def sp_law_is_kind (K : PySem.W.Frag) : Sp := fun vs H Q _ => ∃ (v : V) (n : Nat) (C : Str) (fs : List (Str × Dt)), vs = [v, .int (n : Nat)] ∧ At K H v (.obj C fs) ∧ kindsT[n]? = some C ∧ ∀ H', Same H H' → Q (.bl true) H'
theorem sp_is_kind_use {K : PySem.W.Frag} {H : Hp} {Q : VK} {E : XK} {v : V} (n : Nat) {i : Int} {C : Str} {fs : List (Str × Dt)} (h : At K H v (.obj C fs)) (e : i = (n : Nat)) (m : kindsT[n]? = some C) (q : ∀ H', Same H H' → Q (.bl true) H') : sp_law_is_kind K [v, .int i] H Q E := ⟨v, n, C, fs, by rw [e], h, m, q⟩
def t_law_is_kind (K : PySem.W.Frag) : TS :=
  (tRet (tAndV (tCB (rIsi K) (tCons (tVar 0) (tCons (tC (.ref (ga K "Fit"))) tNil))) (tOp (rEqD K) (tCall (sp_law_kinds K) [] E0 (tCons (tVar 0) tNil)) (tLc (iRng1 (tCons (tC (.int 7)) tNil)) (gName 2) tYes (tOp rEq (tVar 2) (tVar 1)) [2]))))
theorem run_law_is_kind {K : PySem.W.Frag} {vs : List V} {H : Hp} {Q : VK} {E : XK} (h : sp_law_is_kind K vs H Q E) (hc : Hc K) (xc : Xc K) : t_law_is_kind K (Ends.mk (fun _ H' => Q .non H') Q (fun _ _ => False) (fun _ _ => False)) (start ["_law_fit", "_law_at", "_law_k"] vs) H := by
  obtain ⟨v, n, C, fs, rfl, h, m, q⟩ := h
  unfold t_law_is_kind
  have hn : n < 7 := (List.getElem?_eq_some_iff.mp m).1
  have hk := kindsB_eq n hn C m
  have hf : Dt.isA "Fit" (.obj C fs) = true := kind_fit n hn C m
  k_ownIn
  refine sp_kinds_use h (fun p H1 np hp s1 => ?_)
  k_ownIn
  refine r_lcRP (fun i => .bl (decide ((i : Int) = (n : Int)))) (by decide) (by decide) (fun x => rfl) (fun i H' Q' hi hq => ?_) (fun D hD => ?_)
  · k_ownIn
    exact hq
  k_ownIn
  refine r_eqBls (bs := kindsB (.obj C fs)) (cs := (List.range 7).map fun i : Nat => decide ((i : Int) = (n : Int))) (SqL.of (by rw [upd_ne (ne_of_none hp hD)]; exact hp)) (SqL.of (by rw [List.map_map]; exact upd_same)) ?_
  have e : decide (kindsB (.obj C fs) = (List.range 7).map fun i : Nat => decide ((i : Int) = (n : Int))) = true := decide_eq_true hk
  rw [e]
  exact q _ (by k_subL)
theorem len_law_is_kind {K : PySem.W.Frag} {vs : List V} {H : Hp} {Q : VK} {E : XK} (h : sp_law_is_kind K vs H Q E) : vs.length = 2 := by
  first | (obtain ⟨rfl, _⟩ := h; rfl) | (obtain ⟨_, rfl, _⟩ := h; rfl) | (obtain ⟨_, _, rfl, _⟩ := h; rfl) | (obtain ⟨_, _, _, rfl, _⟩ := h; rfl) | (obtain ⟨_, _, _, _, rfl, _⟩ := h; rfl) | (obtain ⟨_, _, _, _, _, rfl, _⟩ := h; rfl) | (obtain ⟨_, _, _, _, _, _, rfl, _⟩ := h; rfl) | (obtain ⟨_, _, _, _, _, _, _, rfl, _⟩ := h; rfl) | (obtain ⟨_, _, _, _, _, _, _, _, rfl, _⟩ := h; rfl) | (obtain ⟨_, _, _, _, _, _, _, _, _, rfl, _⟩ := h; rfl) | (obtain ⟨_, _, _, _, _, _, _, _, _, _, rfl, _⟩ := h; rfl) | (obtain ⟨_, _, _, _, _, _, _, _, _, _, _, rfl, _⟩ := h; rfl) | (obtain ⟨_, _, _, _, _, _, _, _, _, _, _, _, rfl, _⟩ := h; rfl) | (obtain ⟨_, _, _, _, _, _, _, _, _, _, _, _, _, rfl, _⟩ := h; rfl)
/-! ### Several.__init__ -/
def sp_Several_init (K : PySem.W.Frag) : Sp := fun vs H Q E => ∃ (C : Str) (x dx : Addr) (v : V) (d : Dt), vs = [.ref x, v] ∧ hasF C "fits" = true ∧ H x = some (.ins (ga K C) dx []) ∧ At K H v d ∧ d.few ∧
  (d.fits2 = true → ∀ H' a us r, v = .ref a → H a = some (.lst us) → H r = none → Kp x H H' → H' r = some (.lst us) → H' x = some (.ins (ga K C) dx [("fits", .ref r)]) → Q .non H') ∧
  (d.fits2 = false → ∀ H', Same H H' → E (.ref (ga K "NoFit")) none H')
def t_Several_init (K : PySem.W.Frag) (E : XK) : TS :=
  (tSeq (tIfS (tOr (tNot (tB (tCB (rIsi K) (tCons (tVar 1) (tCons (tC (.ty "list")) tNil))))) (tOr (tTest (tOp (rI0 fun i j => .bl (decide (i < j))) (tCB (rLen K) (tCons (tVar 1) tNil)) (tC (.int 2)))) (tNot (tB (tCB (rAll K) (tCons (tLc (iList K (tVar 1)) (gName 2) tYes (tCB (rIsi K) (tCons (tVar 2) (tCons (tC (.ref (ga K "Fit"))) tNil))) [2]) tNil)))))) (tRaise E (ga K "NoFit")) tNext)
    (sFld K (tVar 0) (tCB (rListOf K) (tCons (tVar 1) tNil)) "fits"))
theorem run_Several_init {K : PySem.W.Frag} {vs : List V} {H : Hp} {Q : VK} {E : XK} (h : sp_Several_init K vs H Q E) (hc : Hc K) (xc : Xc K) : t_Several_init K E (Ends.mk (fun _ H' => Q .non H') Q (fun _ _ => False) (fun _ _ => False)) (start ["self", "fits", "fit"] vs) H := by
  obtain ⟨C, x, dx, v, d, rfl, hf, hx, h, l, q, b⟩ := h
  unfold t_Several_init
  cases d with
  | lst ds =>
    have few : ds.length ≤ 1000 := l
    have h0 := h
    cases h with
    | lst ha hl =>
      rename_i a us
      k_ownIn
      kpt_turns
      k_ownIn
      rw [hl.len]
      refine ite_d (fun h2 => ?_) (fun h2 => ?_)
      · k_ownIn
        exact b (by show (decide _ && _) = false; rw [decide_eq_false (by omega)]; rfl) _ (Same.refl _)
      k_ownIn
      refine r_lcL (fun D i acc H' => Same H H' ∧ acc = (ds.take i).map fun d => .bl (d.isA "Fit")) (SqL.of ha) (by rw [hl.len]; omega) (fun x => rfl) ?_ ?_ ?_ ?_
      · intro D hD
        exact ⟨by k_subL, rfl⟩
      · rintro D i acc H' ⟨s, _⟩
        exact Same.seq s (SqL.of ha)
      · rintro D i y acc H' Q' nD hy hacc ⟨s, rfl⟩ hq
        obtain ⟨d, hd, hat⟩ := hl.at_ hy
        have hat := hat.same s
        k_ownIn
        refine hq _ _ (by kcj_m) ⟨by k_subL, ?_⟩
        rw [List.take_add_one, hd, List.map_append]
        rfl
      · rintro D acc H' nD hD hn ⟨s, rfl⟩
        rw [hl.len, List.take_length] at hD
        k_ownIn
        refine r_all (bs := ds.map (Dt.isA "Fit")) (SqL.of (by rw [List.map_map]; exact hD)) ?_
        k_ownIn
        have e : (ds.map (Dt.isA "Fit")).all id = ds.all (Dt.isA "Fit") := by rw [List.all_map]; rfl
        rw [e]
        refine ite_b (fun hb => ?_) (fun hb => ?_)
        · have hb : ds.all (Dt.isA "Fit") = false := by simpa using hb
          k_ownIn
          exact b (by show (_ && ds.all (Dt.isA "Fit")) = false; rw [hb, Bool.and_false]) _ (by k_subL)
        have hb : ds.all (Dt.isA "Fit") = true := by simpa using hb
        have hx2 := s _ _ hx
        k_ownIn
        rename_i r hr
        refine r_set (C := ga K C) (by kcj_m) (hc.cls (hasF_in hf)) (hc.na hf) (by decide) putF_nil ?_
        k_ownIn
        refine q ?_ _ a _ r rfl ha (by kd_p1) (by k_subL) (by kcj_m) upd_same
        show (decide _ && ds.all (Dt.isA "Fit")) = true
        rw [hb, decide_eq_true (by omega)]; rfl
  | _ =>
    k_ownIn
    exact b rfl _ (Same.refl _)
theorem len_Several_init {K : PySem.W.Frag} {vs : List V} {H : Hp} {Q : VK} {E : XK} (h : sp_Several_init K vs H Q E) : vs.length = 2 := by
  first | (obtain ⟨rfl, _⟩ := h; rfl) | (obtain ⟨_, rfl, _⟩ := h; rfl) | (obtain ⟨_, _, rfl, _⟩ := h; rfl) | (obtain ⟨_, _, _, rfl, _⟩ := h; rfl) | (obtain ⟨_, _, _, _, rfl, _⟩ := h; rfl) | (obtain ⟨_, _, _, _, _, rfl, _⟩ := h; rfl) | (obtain ⟨_, _, _, _, _, _, rfl, _⟩ := h; rfl) | (obtain ⟨_, _, _, _, _, _, _, rfl, _⟩ := h; rfl) | (obtain ⟨_, _, _, _, _, _, _, _, rfl, _⟩ := h; rfl) | (obtain ⟨_, _, _, _, _, _, _, _, _, rfl, _⟩ := h; rfl) | (obtain ⟨_, _, _, _, _, _, _, _, _, _, rfl, _⟩ := h; rfl) | (obtain ⟨_, _, _, _, _, _, _, _, _, _, _, rfl, _⟩ := h; rfl) | (obtain ⟨_, _, _, _, _, _, _, _, _, _, _, _, rfl, _⟩ := h; rfl) | (obtain ⟨_, _, _, _, _, _, _, _, _, _, _, _, _, rfl, _⟩ := h; rfl)
/-! ### are_names -/
def sp_are_names (K : PySem.W.Frag) : Sp := fun vs H Q _ => ∃ (v : V) (d : Dt), vs = [v] ∧ At K H v d ∧ d.shortL ∧ ∀ H', Same H H' → Q (.bl d.names) H'
theorem sp_names_use {K : PySem.W.Frag} {H : Hp} {Q : VK} {E : XK} {v : V} {d : Dt} (h : At K H v d) (s : d.shortL) (q : ∀ H', Same H H' → Q (.bl d.names) H') : sp_are_names K [v] H Q E := ⟨v, d, rfl, h, s, q⟩
local macro_rules | `(tactic| kas_types) => `(tactic| ((with_reducible refine' sp_names_use ?h ?s (fun H' sm => ?_)); (case h => kd_addB); (case s => (first | with_reducible assumption | exact trivial))))
def t_are_names (K : PySem.W.Frag) : TS :=
  (tSeq (tIfS (tOr (tNot (tB (tCB (rIsi K) (tCons (tVar 0) (tCons (tC (.ty "list")) tNil))))) (tNot (tB (tCB (rAll K) (tCons (tLc (iList K (tVar 0)) (gName 1) tYes (tCall (sp_is_name K) [] E0 (tCons (tVar 1) tNil)) [1]) tNil))))) (tRet (tC (.bl false))) tNext)
    (tRet (tOp rEq (tLenSetG K (tVar 0)) (tCB (rLen K) (tCons (tVar 0) tNil)))))
theorem run_are_names {K : PySem.W.Frag} {vs : List V} {H : Hp} {Q : VK} {E : XK} (h : sp_are_names K vs H Q E) (hc : Hc K) (xc : Xc K) : t_are_names K (Ends.mk (fun _ H' => Q .non H') Q (fun _ _ => False) (fun _ _ => False)) (start ["thing", "one"] vs) H := by
  obtain ⟨v, d, rfl, h, l, q⟩ := h
  unfold t_are_names
  cases d with
  | lst ds =>
    obtain ⟨few, sh⟩ := l
    have h0 := h
    cases h with
    | lst ha hl =>
      rename_i a vs
      k_ownIn
      kpt_turns
      k_ownIn
      refine r_lcL (fun D i acc H' => Same H H' ∧ acc = (ds.take i).map fun d => .bl d.name) (SqL.of ha) (by rw [hl.len]; omega) (fun x => rfl) ?_ ?_ ?_ ?_
      · intro D hD
        exact ⟨by k_subL, rfl⟩
      · rintro D i acc H' ⟨s, _⟩
        exact Same.seq s (SqL.of ha)
      · rintro D i x acc H' Q' nD hx hacc ⟨s, rfl⟩ hq
        obtain ⟨d, hd, hat⟩ := hl.at_ hx
        have hat := hat.same s
        have shd := sh d (List.mem_of_getElem? hd)
        k_ownIn
        rename_i H2 s2
        refine hq _ _ (by kcj_m) ⟨by k_subL, ?_⟩
        rw [List.take_add_one, hd, List.map_append]
        rfl
      · rintro D acc H' nD hD hn ⟨s, rfl⟩
        rw [hl.len, List.take_length] at hD
        k_ownIn
        refine r_all (bs := ds.map Dt.name) (SqL.of (by rw [List.map_map]; exact hD)) ?_
        k_ownIn
        have e : (ds.map Dt.name).all id = ds.all Dt.name := by rw [List.all_map]; rfl
        rw [e]
        refine ite_b (fun hb => ?_) (fun hb => ?_)
        · have hb : ds.all Dt.name = false := by simpa using hb
          have e2 : (Dt.lst ds).names = false := by show (ds.all Dt.name && _) = false; rw [hb]; rfl
          rw [e2] at q
          k_ownIn
          exact q _ (by k_subL)
        · have hb : ds.all Dt.name = true := by simpa using hb
          obtain ⟨e3, nn⟩ := names_strs hb
          have ev : vs = (strsOf ds).map V.str := AtL.strs_of (e3 ▸ hl)
          have ln : (strsOf ds).length = ds.length := by
            have := congrArg List.length e3
            rw [List.length_map] at this
            exact this.symm
          k_ownIn
          refine r_lsg (zs := strsOf ds) (ev ▸ Same.seq s (SqL.of ha)) (by omega) ?_
          k_ownIn
          have e2 : (Dt.lst ds).names = decide (((dcnt (strsOf ds) (strsOf ds).length : Nat) : Int) = ((vs.length : Nat) : Int)) := by
            show (ds.all Dt.name && decide ((strsOf ds).Nodup)) = _
            have k := dcnt_eq (ks := strsOf ds) (strsOf ds).length (Nat.le_refl _)
            rw [List.take_length] at k
            rw [hb, Bool.true_and, hl.len, ← ln]
            exact decide_eq_decide.mpr ⟨fun z => by rw [k.mpr z], fun z => k.mp (Int.ofNat.inj z)⟩
          rw [e2] at q
          exact q _ (by k_subL)
  | _ =>
    k_ownIn
    exact q _ (Same.refl _)
theorem len_are_names {K : PySem.W.Frag} {vs : List V} {H : Hp} {Q : VK} {E : XK} (h : sp_are_names K vs H Q E) : vs.length = 1 := by
  first | (obtain ⟨rfl, _⟩ := h; rfl) | (obtain ⟨_, rfl, _⟩ := h; rfl) | (obtain ⟨_, _, rfl, _⟩ := h; rfl) | (obtain ⟨_, _, _, rfl, _⟩ := h; rfl) | (obtain ⟨_, _, _, _, rfl, _⟩ := h; rfl) | (obtain ⟨_, _, _, _, _, rfl, _⟩ := h; rfl) | (obtain ⟨_, _, _, _, _, _, rfl, _⟩ := h; rfl) | (obtain ⟨_, _, _, _, _, _, _, rfl, _⟩ := h; rfl) | (obtain ⟨_, _, _, _, _, _, _, _, rfl, _⟩ := h; rfl) | (obtain ⟨_, _, _, _, _, _, _, _, _, rfl, _⟩ := h; rfl) | (obtain ⟨_, _, _, _, _, _, _, _, _, _, rfl, _⟩ := h; rfl) | (obtain ⟨_, _, _, _, _, _, _, _, _, _, _, rfl, _⟩ := h; rfl) | (obtain ⟨_, _, _, _, _, _, _, _, _, _, _, _, rfl, _⟩ := h; rfl) | (obtain ⟨_, _, _, _, _, _, _, _, _, _, _, _, _, rfl, _⟩ := h; rfl)
/-! ### Named.__init__ -/
def sp_Named_init (K : PySem.W.Frag) : Sp := fun vs H Q E => ∃ (C : Str) (x dx : Addr) (v : V) (d : Dt), vs = [.ref x, v] ∧ hasF C "names" = true ∧ H x = some (.ins (ga K C) dx []) ∧ At K H v d ∧ d.shortL ∧
  (d.namesN = true → ∀ H' a us r, v = .ref a → H a = some (.lst us) → H r = none → Kp x H H' → H' r = some (.lst us) → H' x = some (.ins (ga K C) dx [("names", .ref r)]) → Q .non H') ∧
  (d.namesN = false → ∀ H', Same H H' → E (.ref (ga K "NoFit")) none H')
def t_Named_init (K : PySem.W.Frag) (E : XK) : TS :=
  (tSeq (tIfS (tOr (tNot (tB (tCall (sp_are_names K) [] E0 (tCons (tVar 1) tNil)))) (tTest (tOp (rEqD K) (tVar 1) (tLst tNil)))) (tRaise E (ga K "NoFit")) tNext)
    (sFld K (tVar 0) (tCB (rListOf K) (tCons (tVar 1) tNil)) "names"))
theorem run_Named_init {K : PySem.W.Frag} {vs : List V} {H : Hp} {Q : VK} {E : XK} (h : sp_Named_init K vs H Q E) (hc : Hc K) (xc : Xc K) : t_Named_init K E (Ends.mk (fun _ H' => Q .non H') Q (fun _ _ => False) (fun _ _ => False)) (start ["self", "names"] vs) H := by
  obtain ⟨C, x, dx, v, d, rfl, hf, hx, h, l, q, b⟩ := h
  unfold t_Named_init
  k_ownIn
  kpt_turns
  k_ownIn
  rename_i H1 s1
  refine ite_b (fun h1 => ?_) (fun h1 => ?_)
  · have h1 : d.names = false := by simpa using h1
    k_ownIn
    exact b (by unfold Dt.namesN; rw [h1]; rfl) _ s1
  have h1 : d.names = true := by simpa using h1
  cases d with
  | lst ds =>
    cases h with
    | lst ha hl =>
      rename_i a us
      have h2 : (ds.all Dt.name && decide ((strsOf ds).Nodup)) = true := h1
      obtain ⟨h3, _⟩ := b2 h2
      obtain ⟨e3, nn⟩ := names_strs h3
      have ev : us = (strsOf ds).map V.str := AtL.strs_of (e3 ▸ hl)
      subst ev
      k_ownIn
      rename_i pe hpe
      refine r_eqStrs (zs := strsOf ds) (ws := []) (by kcj_m) upd_same nn (fun z hz => absurd hz List.not_mem_nil) ?_
      k_ownIn
      refine ite_d (fun h4 => ?_) (fun h4 => ?_)
      · k_ownIn
        refine b ?_ _ (by k_subL)
        have e4 : ds = [] := by rw [e3, h4]; rfl
        subst e4
        rfl
      k_ownIn
      rename_i r hr
      refine r_set (C := ga K C) (by kcj_m) (hc.cls (hasF_in hf)) (hc.na hf) (by decide) putF_nil ?_
      k_ownIn
      refine q ?_ _ a _ r rfl ha (by kd_p1) (by k_subL) (by kcj_m) upd_same
      unfold Dt.namesN
      rw [h1]
      cases ds with
      | nil => exact absurd rfl h4
      | cons d ds => rfl
  | _ => exact absurd h1 Bool.false_ne_true
theorem len_Named_init {K : PySem.W.Frag} {vs : List V} {H : Hp} {Q : VK} {E : XK} (h : sp_Named_init K vs H Q E) : vs.length = 2 := by
  first | (obtain ⟨rfl, _⟩ := h; rfl) | (obtain ⟨_, rfl, _⟩ := h; rfl) | (obtain ⟨_, _, rfl, _⟩ := h; rfl) | (obtain ⟨_, _, _, rfl, _⟩ := h; rfl) | (obtain ⟨_, _, _, _, rfl, _⟩ := h; rfl) | (obtain ⟨_, _, _, _, _, rfl, _⟩ := h; rfl) | (obtain ⟨_, _, _, _, _, _, rfl, _⟩ := h; rfl) | (obtain ⟨_, _, _, _, _, _, _, rfl, _⟩ := h; rfl) | (obtain ⟨_, _, _, _, _, _, _, _, rfl, _⟩ := h; rfl) | (obtain ⟨_, _, _, _, _, _, _, _, _, rfl, _⟩ := h; rfl) | (obtain ⟨_, _, _, _, _, _, _, _, _, _, rfl, _⟩ := h; rfl) | (obtain ⟨_, _, _, _, _, _, _, _, _, _, _, rfl, _⟩ := h; rfl) | (obtain ⟨_, _, _, _, _, _, _, _, _, _, _, _, rfl, _⟩ := h; rfl) | (obtain ⟨_, _, _, _, _, _, _, _, _, _, _, _, _, rfl, _⟩ := h; rfl)
/-! ### _law_made -/
theorem namesN_lst {d : Dt} (h : d.namesN = true) : ∃ ds, d = .lst ds := by
  cases d with
  | lst ds => exact ⟨ds, rfl⟩
  | _ => exact absurd h Bool.false_ne_true
theorem fits2_lst {d : Dt} (h : d.fits2 = true) : ∃ ds, d = .lst ds := by
  cases d with
  | lst ds => exact ⟨ds, rfl⟩
  | _ => exact absurd h Bool.false_ne_true
theorem at_back {K : PySem.W.Frag} {H H2 : Hp} {a : Addr} {us : List V} {d : Dt} (h : At K H (.ref a) d) (hd : ∃ ds, d = .lst ds) (s : Same H H2) (e : H2 a = some (.lst us)) : H a = some (.lst us) := by
  obtain ⟨ds, rfl⟩ := hd
  cases h with
  | lst ha _ => rw [ha]; exact (s _ _ ha).symm.trans e
def sp_law_made (K : PySem.W.Frag) : Sp := fun vs H Q E => ∃ (n : Int) (v : V) (d : Dt), vs = [.int n, v] ∧ 1 ≤ n ∧ n ≤ 6 ∧ At K H v d ∧ d.shortL ∧ d.few ∧
  (madeB n d = true → (n = 1 ∨ n = 2 ∨ n = 5 ∨ n = 6) ∧ ∀ H' x dx a us r, v = .ref a → H a = some (.lst us) → H r = none → H x = none → Same H H' → H' r = some (.lst us) → H' x = some (.ins (ga K (madeC n).1) dx [((madeC n).2, .ref r)]) → Q (.ref x) H') ∧
  (madeB n d = false → ∀ H', Same H H' → E (.ref (ga K "NoFit")) none H')
def t_law_made (K : PySem.W.Frag) (E : XK) : TS :=
  (tSeq (tIfS (tTest (tOp rEq (tVar 0) (tC (.int 1)))) (tRet (tMake (ga K "Kind") (sp_Named_init K) [] E (tCons (tVar 1) tNil))) tNext)
    (tSeq (tIfS (tTest (tOp rEq (tVar 0) (tC (.int 2)))) (tRet (tMake (ga K "Place") (sp_Named_init K) [] E (tCons (tVar 1) tNil))) tNext)
    (tSeq (tIfS (tTest (tOp rEq (tVar 0) (tC (.int 3)))) (tRet (tMake (ga K "Least") (sp_Least_init K) [] E (tCons (tVar 1) tNil))) tNext)
    (tSeq (tIfS (tTest (tOp rEq (tVar 0) (tC (.int 4)))) (tRet (tMake (ga K "Not") (sp_Not_init K) [] E (tCons (tVar 1) tNil))) tNext)
    (tSeq (tIfS (tTest (tOp rEq (tVar 0) (tC (.int 5)))) (tRet (tMake (ga K "Both") (sp_Several_init K) [] E (tCons (tVar 1) tNil))) tNext)
    (tRet (tMake (ga K "Either") (sp_Several_init K) [] E (tCons (tVar 1) tNil))))))))
theorem run_law_made {K : PySem.W.Frag} {vs : List V} {H : Hp} {Q : VK} {E : XK} (h : sp_law_made K vs H Q E) (hc : Hc K) (xc : Xc K) : t_law_made K E (Ends.mk (fun _ H' => Q .non H') Q (fun _ _ => False) (fun _ _ => False)) (start ["_law_at", "_law_thing"] vs) H := by
  obtain ⟨n, v, d, rfl, n0, n1, h, sl, few, q, b⟩ := h
  unfold t_law_made
  have h6 : n = 1 ∨ n = 2 ∨ n = 3 ∨ n = 4 ∨ n = 5 ∨ n = 6 := by omega
  rcases h6 with rfl | rfl | rfl | rfl | rfl | rfl
  · k_ownIn
    rename_i x dx nx nd
    have s0 : Same H (upd (upd H dx (.own x)) x (.ins (ga K "Kind") dx [])) := same_made nx nd.1 (Kp.refl _ _)
    refine ⟨"Kind", x, dx, v, d, rfl, by decide +kernel, upd_same, h.same s0, sl, fun hg H' a us r e ha hr kp hr' hx' => ⟨rfl, ?_⟩, fun hb H' s => b hb H' (Same.trans s0 s)⟩
    subst e
    exact (q hg).2 H' x dx a us r rfl (at_back h (namesN_lst hg) s0 ha) (none_same s0 hr) nx (same_made nx nd.1 kp) hr' hx'
  · k_ownIn
    rename_i x dx nx nd
    have s0 : Same H (upd (upd H dx (.own x)) x (.ins (ga K "Place") dx [])) := same_made nx nd.1 (Kp.refl _ _)
    refine ⟨"Place", x, dx, v, d, rfl, by decide +kernel, upd_same, h.same s0, sl, fun hg H' a us r e ha hr kp hr' hx' => ⟨rfl, ?_⟩, fun hb H' s => b hb H' (Same.trans s0 s)⟩
    subst e
    exact (q hg).2 H' x dx a us r rfl (at_back h (namesN_lst hg) s0 ha) (none_same s0 hr) nx (same_made nx nd.1 kp) hr' hx'
  · k_ownIn
    rename_i x dx nx nd
    have s0 : Same H (upd (upd H dx (.own x)) x (.ins (ga K "Least") dx [])) := same_made nx nd.1 (Kp.refl _ _)
    exact ⟨x, dx, v, d, rfl, upd_same, h.same s0, fun hg => absurd (q hg).1 (by decide), fun hb H' s => b hb H' (Same.trans s0 s)⟩
  · k_ownIn
    rename_i x dx nx nd
    have s0 : Same H (upd (upd H dx (.own x)) x (.ins (ga K "Not") dx [])) := same_made nx nd.1 (Kp.refl _ _)
    exact ⟨x, dx, v, d, rfl, upd_same, h.same s0, fun hg => absurd (q hg).1 (by decide), fun hb H' s => b hb H' (Same.trans s0 s)⟩
  · k_ownIn
    rename_i x dx nx nd
    have s0 : Same H (upd (upd H dx (.own x)) x (.ins (ga K "Both") dx [])) := same_made nx nd.1 (Kp.refl _ _)
    refine ⟨"Both", x, dx, v, d, rfl, by decide +kernel, upd_same, h.same s0, few, fun hg H' a us r e ha hr kp hr' hx' => ⟨rfl, ?_⟩, fun hb H' s => b hb H' (Same.trans s0 s)⟩
    subst e
    exact (q hg).2 H' x dx a us r rfl (at_back h (fits2_lst hg) s0 ha) (none_same s0 hr) nx (same_made nx nd.1 kp) hr' hx'
  · k_ownIn
    rename_i x dx nx nd
    have s0 : Same H (upd (upd H dx (.own x)) x (.ins (ga K "Either") dx [])) := same_made nx nd.1 (Kp.refl _ _)
    refine ⟨"Either", x, dx, v, d, rfl, by decide +kernel, upd_same, h.same s0, few, fun hg H' a us r e ha hr kp hr' hx' => ⟨rfl, ?_⟩, fun hb H' s => b hb H' (Same.trans s0 s)⟩
    subst e
    exact (q hg).2 H' x dx a us r rfl (at_back h (fits2_lst hg) s0 ha) (none_same s0 hr) nx (same_made nx nd.1 kp) hr' hx'
theorem len_law_made {K : PySem.W.Frag} {vs : List V} {H : Hp} {Q : VK} {E : XK} (h : sp_law_made K vs H Q E) : vs.length = 2 := by
  first | (obtain ⟨rfl, _⟩ := h; rfl) | (obtain ⟨_, rfl, _⟩ := h; rfl) | (obtain ⟨_, _, rfl, _⟩ := h; rfl) | (obtain ⟨_, _, _, rfl, _⟩ := h; rfl) | (obtain ⟨_, _, _, _, rfl, _⟩ := h; rfl) | (obtain ⟨_, _, _, _, _, rfl, _⟩ := h; rfl) | (obtain ⟨_, _, _, _, _, _, rfl, _⟩ := h; rfl) | (obtain ⟨_, _, _, _, _, _, _, rfl, _⟩ := h; rfl) | (obtain ⟨_, _, _, _, _, _, _, _, rfl, _⟩ := h; rfl) | (obtain ⟨_, _, _, _, _, _, _, _, _, rfl, _⟩ := h; rfl) | (obtain ⟨_, _, _, _, _, _, _, _, _, _, rfl, _⟩ := h; rfl) | (obtain ⟨_, _, _, _, _, _, _, _, _, _, _, rfl, _⟩ := h; rfl) | (obtain ⟨_, _, _, _, _, _, _, _, _, _, _, _, rfl, _⟩ := h; rfl) | (obtain ⟨_, _, _, _, _, _, _, _, _, _, _, _, _, rfl, _⟩ := h; rfl)
/-! ### _law_named -/
def sp_law_named (K : PySem.W.Frag) : Sp := fun vs H Q _ => ∃ (n : Int) (a : Addr) (zs : List Str), vs = [.int n, .ref a] ∧ (n = 1 ∨ n = 2) ∧ H a = some (.lst (zs.map V.str)) ∧ 1 ≤ zs.length ∧ zs.length ≤ 100 ∧ (∀ z ∈ zs, nameS z = true) ∧ zs.Nodup ∧ ∀ H', Same H H' → Q (.bl true) H'
theorem sp_named_use {K : PySem.W.Frag} {H : Hp} {Q : VK} {E : XK} {n : Int} {a : Addr} {zs : List Str} (hn : n = 1 ∨ n = 2) (ha : H a = some (.lst (zs.map V.str))) (l1 : 1 ≤ zs.length) (l2 : zs.length ≤ 100) (nz : ∀ z ∈ zs, nameS z = true) (dz : zs.Nodup) (q : ∀ H', Same H H' → Q (.bl true) H') : sp_law_named K [.int n, .ref a] H Q E := ⟨n, a, zs, rfl, hn, ha, l1, l2, nz, dz, q⟩
def t_law_named (K : PySem.W.Frag) : TS :=
  (tSeq (tAsg (tCB (rListOf K) (tCons (tVar 1) tNil)) (gName 2))
    (tSeq (tAsg (tCall (sp_law_made K) [] E0 (tCons (tVar 0) (tCons (tVar 2) tNil))) (gName 3))
    (tSeq (tIfS (tOr (tTest (tOp (rNeD K) (tVar 2) (tVar 1))) (tOr (tNot (tB (tCall (sp_law_is_kind K) [] E0 (tCons (tVar 3) (tCons (tVar 0) tNil))))) (tOr (tNot (tB (tCB (rIsi K) (tCons (tFld K (tVar 3) "names") (tCons (tC (.ty "list")) tNil))))) (tTest (tOp (rNeD K) (tFld K (tVar 3) "names") (tVar 1)))))) (tRet (tC (.bl false))) tNext)
    (tSeq (tDrop (tBM K "list" rAppend (tVar 2) (tCons (tC (.str "zz")) tNil)))
    (tSeq (tAsg (tC (.str "zzz")) (gSub (tVar 2) (tC (.int 0)) rSetL))
    (tRet (tOp (rEqD K) (tFld K (tVar 3) "names") (tVar 1))))))))
theorem run_law_named {K : PySem.W.Frag} {vs : List V} {H : Hp} {Q : VK} {E : XK} (h : sp_law_named K vs H Q E) (hc : Hc K) (xc : Xc K) : t_law_named K (Ends.mk (fun _ H' => Q .non H') Q (fun _ _ => False) (fun _ _ => False)) (start ["_law_at", "_law_names_here", "_law_handed", "_law_fit"] vs) H := by
  obtain ⟨n, a, zs, rfl, hn, ha, l1, l2, nz, dz, q⟩ := h
  unfold t_law_named
  k_ownIn
  rename_i p hp
  have hN : (Dt.lst (zs.map Dt.str)).namesN = true := by
    unfold Dt.namesN
    rw [names_ok nz dz]
    cases zs with
    | nil => exact absurd l1 (by decide)
    | cons z zs => rfl
  have mB : madeB n (.lst (zs.map Dt.str)) = true := by unfold madeB; rw [if_pos hn]; exact hN
  refine ⟨n, .ref p, .lst (zs.map Dt.str), rfl, by omega, by omega, .lst (by kcj_m) .strs, shortL_names (by omega) nz, by show (zs.map Dt.str).length ≤ 1000; rw [List.length_map]; omega, fun _ => ⟨by omega, fun H1 x dx b us r e hb hr nx s1 hr1 hx1 => ?_⟩, fun z => by rw [mB] at z; cases z⟩
  cases e
  cases hb.symm.trans (upd_same (H := H) (a := p))
  have nr : r ≠ p := Ne.symm (ne_of_none upd_same hr)
  have nxp : x ≠ p := Ne.symm (ne_of_none upd_same nx)
  have nrx : r ≠ x := ne_of hr1 hx1 (by intro z; cases z)
  have npa : a ≠ p := ne_of_none ha hp
  have hp1 : H1 p = some (.lst (zs.map V.str)) := s1 _ _ upd_same
  have ha1 : H1 a = some (.lst (zs.map V.str)) := s1 _ _ (by rw [upd_ne npa]; exact ha)
  have s10 : Same H H1 := Same.trans (Same.new (Same.refl H) hp) s1
  rcases hn with rfl | rfl
  · have hx1 : H1 x = some (.ins (ga K "Kind") dx [("names", .ref r)]) := hx1
    have hat : At K H1 (.ref x) (.obj "Kind" [("names", .lst (zs.map Dt.str))]) := .obj hx1 (by decide +kernel) (.cons (.lst hr1 .strs) .nil)
    k_ownIn
    refine r_neStrs hp1 ha1 nz nz ?_
    rw [decide_eq_true rfl]
    k_ownIn
    refine sp_is_kind_use 1 hat rfl rfl (fun H2 s2 => ?_)
    k_ownIn
    refine r_neStrs (s2 _ _ hr1) (s2 _ _ ha1) nz nz ?_
    rw [decide_eq_true rfl]
    k_ownIn
    refine r_app (xs := zs.map V.str) (s2 _ _ hp1) (by rw [List.length_map, sizeLine_eq]; omega) ?_
    k_ownIn
    refine r_setL (n := 0) upd_same (by rw [List.length_append, List.length_map]; show (if _ then _ else _) = _; simp) ?_
    k_ownIn
    refine r_eqStrs (by rw [upd_ne nr, upd_ne nr]; exact s2 _ _ hr1) (by rw [upd_ne npa, upd_ne npa]; exact s2 _ _ ha1) nz nz ?_
    exact q_t rfl (q _ (by k_subL))
  · have hx1 : H1 x = some (.ins (ga K "Place") dx [("names", .ref r)]) := hx1
    have hat : At K H1 (.ref x) (.obj "Place" [("names", .lst (zs.map Dt.str))]) := .obj hx1 (by decide +kernel) (.cons (.lst hr1 .strs) .nil)
    k_ownIn
    refine r_neStrs hp1 ha1 nz nz ?_
    rw [decide_eq_true rfl]
    k_ownIn
    refine sp_is_kind_use 2 hat rfl rfl (fun H2 s2 => ?_)
    k_ownIn
    refine r_neStrs (s2 _ _ hr1) (s2 _ _ ha1) nz nz ?_
    rw [decide_eq_true rfl]
    k_ownIn
    refine r_app (xs := zs.map V.str) (s2 _ _ hp1) (by rw [List.length_map, sizeLine_eq]; omega) ?_
    k_ownIn
    refine r_setL (n := 0) upd_same (by rw [List.length_append, List.length_map]; show (if _ then _ else _) = _; simp) ?_
    k_ownIn
    refine r_eqStrs (by rw [upd_ne nr, upd_ne nr]; exact s2 _ _ hr1) (by rw [upd_ne npa, upd_ne npa]; exact s2 _ _ ha1) nz nz ?_
    exact q_t rfl (q _ (by k_subL))
theorem len_law_named {K : PySem.W.Frag} {vs : List V} {H : Hp} {Q : VK} {E : XK} (h : sp_law_named K vs H Q E) : vs.length = 2 := by
  first | (obtain ⟨rfl, _⟩ := h; rfl) | (obtain ⟨_, rfl, _⟩ := h; rfl) | (obtain ⟨_, _, rfl, _⟩ := h; rfl) | (obtain ⟨_, _, _, rfl, _⟩ := h; rfl) | (obtain ⟨_, _, _, _, rfl, _⟩ := h; rfl) | (obtain ⟨_, _, _, _, _, rfl, _⟩ := h; rfl) | (obtain ⟨_, _, _, _, _, _, rfl, _⟩ := h; rfl) | (obtain ⟨_, _, _, _, _, _, _, rfl, _⟩ := h; rfl) | (obtain ⟨_, _, _, _, _, _, _, _, rfl, _⟩ := h; rfl) | (obtain ⟨_, _, _, _, _, _, _, _, _, rfl, _⟩ := h; rfl) | (obtain ⟨_, _, _, _, _, _, _, _, _, _, rfl, _⟩ := h; rfl) | (obtain ⟨_, _, _, _, _, _, _, _, _, _, _, rfl, _⟩ := h; rfl) | (obtain ⟨_, _, _, _, _, _, _, _, _, _, _, _, rfl, _⟩ := h; rfl) | (obtain ⟨_, _, _, _, _, _, _, _, _, _, _, _, _, rfl, _⟩ := h; rfl)
/-! ### _law_several -/
def leastD (w : Int) : Dt := .obj "Least" [("weight", .int w)]
def sp_law_several (K : PySem.W.Frag) : Sp := fun vs H Q _ => ∃ (n : Int) (a : Addr) (ws : List Int), vs = [.int n, .ref a] ∧ (n = 5 ∨ n = 6) ∧ H a = some (.lst (ws.map V.int)) ∧ 2 ≤ ws.length ∧ ws.length ≤ 100 ∧ (∀ z ∈ ws, 0 ≤ z) ∧ ∀ H', Same H H' → Q (.bl true) H'
theorem sp_several_use {K : PySem.W.Frag} {H : Hp} {Q : VK} {E : XK} {n : Int} {a : Addr} {ws : List Int} (hn : n = 5 ∨ n = 6) (ha : H a = some (.lst (ws.map V.int))) (l1 : 2 ≤ ws.length) (l2 : ws.length ≤ 100) (nz : ∀ z ∈ ws, 0 ≤ z) (q : ∀ H', Same H H' → Q (.bl true) H') : sp_law_several K [.int n, .ref a] H Q E := ⟨n, a, ws, rfl, hn, ha, l1, l2, nz, q⟩
theorem fits_least {ws : List Int} (h : 2 ≤ ws.length) : (Dt.lst (ws.map leastD)).fits2 = true := by
  show (decide (2 ≤ (ws.map leastD).length) && (ws.map leastD).all (Dt.isA "Fit")) = true
  rw [List.length_map, decide_eq_true h, Bool.true_and, List.all_map, List.all_eq_true]
  intro x _
  exact (by decide +kernel : isSub "Least" "Fit" = true)
theorem ints_at {ws : List Int} {i : Nat} {x : V} (h : (ws.map V.int)[i]? = some x) : ∃ w, ws[i]? = some w ∧ x = .int w := by
  rw [List.getElem?_map] at h
  cases e : ws[i]? with
  | none => rw [e] at h; cases h
  | some w => rw [e] at h; cases h; exact ⟨w, rfl, rfl⟩
theorem at_ref {K : PySem.W.Frag} {H : Hp} {v : V} {C : Str} {fs : List (Str × Dt)} (h : At K H v (.obj C fs)) : ∃ a, v = .ref a := by
  cases h with
  | obj h m l => exact ⟨_, rfl⟩
def t_law_several (K : PySem.W.Frag) : TS :=
  (tSeq (tAsg (tLc (iList K (tVar 1)) (gName 5) tYes (tMake (ga K "Least") (sp_Least_init K) [] E0 (tCons (tVar 5) tNil)) [5]) (gName 2))
    (tSeq (tAsg (tCall (sp_law_made K) [] E0 (tCons (tVar 0) (tCons (tVar 2) tNil))) (gName 3))
    (tSeq (tIfS (tOr (tTest (tOp rNe (tCB (rLen K) (tCons (tVar 2) tNil)) (tCB (rLen K) (tCons (tVar 1) tNil)))) (tOr (tNot (tB (tCall (sp_law_is_kind K) [] E0 (tCons (tVar 3) (tCons (tVar 0) tNil))))) (tNot (tB (tCB (rIsi K) (tCons (tFld K (tVar 3) "fits") (tCons (tC (.ty "list")) tNil))))))) (tRet (tC (.bl false))) tNext)
    (tSeq (tDrop (tBM K "list" rAppend (tVar 2) (tCons (tMake0 (ga K "Any")) tNil)))
    (tSeq (tAsg (tMake0 (ga K "Any")) (gSub (tVar 2) (tC (.int 0)) rSetL))
    (tSeq (tAsg (tLc (iList K (tFld K (tVar 3) "fits")) (gName 6) (tB (tCB (rIsi K) (tCons (tVar 6) (tCons (tC (.ref (ga K "Least"))) tNil)))) (tVar 6) [6]) (gName 4))
    (tRet (tAndV (tOp rEq (tCB (rLen K) (tCons (tFld K (tVar 3) "fits") tNil)) (tCB (rLen K) (tCons (tVar 1) tNil))) (tOp (rEqD K) (tLc (iList K (tVar 4)) (gName 6) tYes (tFld K (tVar 6) "weight") [6]) (tVar 1))))))))))
theorem run_law_several {K : PySem.W.Frag} {vs : List V} {H : Hp} {Q : VK} {E : XK} (h : sp_law_several K vs H Q E) (hc : Hc K) (xc : Xc K) : t_law_several K (Ends.mk (fun _ H' => Q .non H') Q (fun _ _ => False) (fun _ _ => False)) (start ["_law_at", "_law_weights", "_law_handed", "_law_fit", "_law_found", "_law_weight", "_law_one"] vs) H := by
  obtain ⟨n, a, ws, rfl, hn, ha, l1, l2, nw, q⟩ := h
  unfold t_law_several
  k_ownIn
  refine r_lcL (fun D i acc H' => Same H H' ∧ AtL K (del H' D) acc ((ws.take i).map leastD)) (SqL.of ha) (by rw [List.length_map]; omega) (fun x => rfl) ?_ ?_ ?_ ?_
  · intro D hD
    exact ⟨by k_subL, .nil⟩
  · rintro D i acc H' ⟨s, _⟩
    exact Same.seq s (SqL.of ha)
  · rintro D i x acc H' Q' nD hx hacc ⟨s, hA⟩ hq
    obtain ⟨w, hw, rfl⟩ := ints_at hx
    have w0 := nw w (List.mem_of_getElem? hw)
    k_ownIn
    rename_i y dy ny nd H2 s2 hy
    have hD2 : H2 D = some (.lst acc) := s2 _ _ hacc
    have nyD : y ≠ D := ne_of hy hD2 (by intro z; cases z)
    refine hq _ _ hD2 ⟨by k_subL, ?_⟩
    have e : (ws.take (i + 1)).map leastD = (ws.take i).map leastD ++ [leastD w] := by rw [List.take_add_one, hw, List.map_append]; rfl
    rw [e]
    refine AtL.app (AtL.same (kp_deld (Kp.upd (Same.kp s2))) hA) (.cons (.obj (del_at (by rw [upd_ne nyD]; exact hy) nyD) (by decide +kernel) (.cons (.int _) .nil)) .nil)
  rintro D acc H1 nD hD hlen ⟨s1, hA⟩
  rw [List.length_map] at hlen hA
  rw [List.take_length] at hA
  have ha1 := s1 _ _ ha
  have naD : a ≠ D := ne_of_none ha nD
  k_ownIn
  have fit := fits_least l1
  have mB : madeB n (.lst (ws.map leastD)) = true := by
    unfold madeB
    rw [if_neg (by omega), if_neg (by omega), if_neg (by omega)]; exact fit
  refine ⟨n, .ref D, .lst (ws.map leastD), rfl, by omega, by omega, .lst hD (hA.same (kp_del (Kp.refl _ _))), ⟨by rw [List.length_map]; omega, fun d hd => by
    obtain ⟨w, _, rfl⟩ := List.mem_map.mp hd
    trivial⟩, by show (ws.map leastD).length ≤ 1000; rw [List.length_map]; omega, fun _ => ⟨by omega, fun H2 x dx b us r e hb hr nx s2 hr2 hx2 => ?_⟩, fun z => by rw [mB] at z; cases z⟩
  cases e
  cases hb.symm.trans hD
  have hA2 : AtL K (del H1 D) acc (ws.map leastD) := hA
  have nr : r ≠ D := Ne.symm (ne_of_none hD hr)
  have nxD : x ≠ D := Ne.symm (ne_of_none hD nx)
  have hD2 := s2 _ _ hD
  have ha2 := s2 _ _ ha1
  have len : ((acc.length : Nat) : Int) = (((ws.map V.int).length : Nat) : Int) := by rw [hlen, List.length_map]
  rcases hn with rfl | rfl
  · have hx2 : H2 x = some (.ins (ga K "Both") dx [("fits", .ref r)]) := hx2
    have hat : At K H2 (.ref x) (.obj "Both" [("fits", .lst (ws.map leastD))]) := .obj hx2 (by decide +kernel) (.cons (.lst hr2 (hA2.same (Same.trans (kp_del (Kp.refl _ _)) s2))) .nil)
    k_ownIn
    refine sp_is_kind_use 5 hat rfl rfl (fun H3 s3 => ?_)
    k_ownIn
    refine r_app (xs := acc) (by kcj_m) (by rw [hlen, sizeLine_eq]; omega) ?_
    k_ownIn
    refine r_setL (n := 0) (xs := acc ++ [_]) (by kcj_m) (by
      rw [List.length_append, hlen]
      unfold ixN
      rw [if_pos (by decide), if_pos (by omega)]; rfl) ?_
    k_ownIn
    rename_i y1 dy1 HA ny1 sA hy1 y2 dy2 HB ny2 sB hy2
    have hD3 : H3 D = some (.lst acc) := s3 _ _ hD2
    have nH : H D = none := nD
    have hrC : upd HB D (.lst ((acc ++ [V.ref y1]).set 0 (V.ref y2))) r = some (.lst acc) := by kcj_m
    have hxC : upd HB D (.lst ((acc ++ [V.ref y1]).set 0 (V.ref y2))) x = some (.ins (ga K "Both") dx [("fits", .ref r)]) := by kcj_m
    have haC : upd HB D (.lst ((acc ++ [V.ref y1]).set 0 (V.ref y2))) a = some (.lst (ws.map V.int)) := by kcj_m
    have sC : Same (del H1 D) (upd HB D (.lst ((acc ++ [V.ref y1]).set 0 (V.ref y2)))) := by k_subL
    have sH : Same H (upd HB D (.lst ((acc ++ [V.ref y1]).set 0 (V.ref y2)))) := by k_subL
    have hAC := hA2.same sC
    generalize upd HB D (.lst ((acc ++ [V.ref y1]).set 0 (V.ref y2))) = HC at hrC hxC haC sH hAC
    refine r_lcLT (fun D2 i acc2 H' => Same HC H' ∧ acc2 = acc.take i) (SqL.of hrC) (by rw [hlen]; omega) (fun x => rfl) ?_ ?_ ?_ ?_
    · intro D2 hD2
      exact ⟨by k_subL, rfl⟩
    · rintro D2 i acc2 H' ⟨s, _⟩
      exact Same.seq s (SqL.of hrC)
    · rintro D2 i v acc2 H' B nD2 hv hacc ⟨s, rfl⟩ hf ht
      obtain ⟨d, hd, hat2⟩ := hAC.at_ hv
      have hd2 : ∃ w, d = leastD w := by
        rw [List.getElem?_map] at hd
        cases e : ws[i]? with
        | none => rw [e] at hd; cases hd
        | some w => rw [e] at hd; cases hd; exact ⟨w, rfl⟩
      obtain ⟨w, rfl⟩ := hd2
      have hat3 : At K H' v (.obj "Least" [("weight", .int w)]) := hat2.same s
      k_ownIn
      refine ht _ (r_var rfl ⟨hacc, by k_subL, ?_⟩)
      rw [List.take_add_one, hv]
      rfl
    rintro D2 acc2 H4 nD2 hD2' ⟨s4, rfl⟩
    rw [List.take_length] at hD2'
    have hxD := s4 _ _ hxC
    have hrD := s4 _ _ hrC
    have haD := s4 _ _ haC
    k_ownIn
    refine r_lcL (fun D3 i acc3 H' => Same H4 H' ∧ acc3 = (ws.take i).map V.int) (SqL.of hD2') (by rw [hlen]; omega) (fun x => rfl) ?_ ?_ ?_ ?_
    · intro D3 hD3
      exact ⟨by k_subL, rfl⟩
    · rintro D3 i acc3 H' ⟨s, _⟩
      exact Same.seq s (SqL.of hD2')
    · rintro D3 i v acc3 H' Q' nD3 hv hacc ⟨s, rfl⟩ hq
      obtain ⟨d, hd, hat2⟩ := hAC.at_ hv
      rw [List.getElem?_map] at hd
      cases e : ws[i]? with
      | none => rw [e] at hd; cases hd
      | some w =>
        rw [e] at hd
        cases hd
        have hat3 : At K H' v (.obj "Least" [("weight", .int w)]) := (hat2.same s4).same s
        k_ownIn
        rename_i u hu
        cases hu
        refine hq _ _ hacc ⟨by k_subL, ?_⟩
        rw [List.take_add_one, e, List.map_append]
        rfl
    rintro D3 acc3 H5 nD3 hD3' _ ⟨s5, rfl⟩
    rw [hlen, List.take_length] at hD3'
    k_ownIn
    refine r_eqInts (bs := ws) (cs := ws) (SqL.of hD3') (SqL.of (s5 _ _ haD)) ?_
    exact q_t rfl (q _ (by k_subL))
  · have hx2 : H2 x = some (.ins (ga K "Either") dx [("fits", .ref r)]) := hx2
    have hat : At K H2 (.ref x) (.obj "Either" [("fits", .lst (ws.map leastD))]) := .obj hx2 (by decide +kernel) (.cons (.lst hr2 (hA2.same (Same.trans (kp_del (Kp.refl _ _)) s2))) .nil)
    k_ownIn
    refine sp_is_kind_use 6 hat rfl rfl (fun H3 s3 => ?_)
    k_ownIn
    refine r_app (xs := acc) (by kcj_m) (by rw [hlen, sizeLine_eq]; omega) ?_
    k_ownIn
    refine r_setL (n := 0) (xs := acc ++ [_]) (by kcj_m) (by
      rw [List.length_append, hlen]
      unfold ixN
      rw [if_pos (by decide), if_pos (by omega)]; rfl) ?_
    k_ownIn
    rename_i y1 dy1 HA ny1 sA hy1 y2 dy2 HB ny2 sB hy2
    have hD3 : H3 D = some (.lst acc) := s3 _ _ hD2
    have nH : H D = none := nD
    have hrC : upd HB D (.lst ((acc ++ [V.ref y1]).set 0 (V.ref y2))) r = some (.lst acc) := by kcj_m
    have hxC : upd HB D (.lst ((acc ++ [V.ref y1]).set 0 (V.ref y2))) x = some (.ins (ga K "Either") dx [("fits", .ref r)]) := by kcj_m
    have haC : upd HB D (.lst ((acc ++ [V.ref y1]).set 0 (V.ref y2))) a = some (.lst (ws.map V.int)) := by kcj_m
    have sC : Same (del H1 D) (upd HB D (.lst ((acc ++ [V.ref y1]).set 0 (V.ref y2)))) := by k_subL
    have sH : Same H (upd HB D (.lst ((acc ++ [V.ref y1]).set 0 (V.ref y2)))) := by k_subL
    have hAC := hA2.same sC
    generalize upd HB D (.lst ((acc ++ [V.ref y1]).set 0 (V.ref y2))) = HC at hrC hxC haC sH hAC
    refine r_lcLT (fun D2 i acc2 H' => Same HC H' ∧ acc2 = acc.take i) (SqL.of hrC) (by rw [hlen]; omega) (fun x => rfl) ?_ ?_ ?_ ?_
    · intro D2 hD2
      exact ⟨by k_subL, rfl⟩
    · rintro D2 i acc2 H' ⟨s, _⟩
      exact Same.seq s (SqL.of hrC)
    · rintro D2 i v acc2 H' B nD2 hv hacc ⟨s, rfl⟩ hf ht
      obtain ⟨d, hd, hat2⟩ := hAC.at_ hv
      have hd2 : ∃ w, d = leastD w := by
        rw [List.getElem?_map] at hd
        cases e : ws[i]? with
        | none => rw [e] at hd; cases hd
        | some w => rw [e] at hd; cases hd; exact ⟨w, rfl⟩
      obtain ⟨w, rfl⟩ := hd2
      have hat3 : At K H' v (.obj "Least" [("weight", .int w)]) := hat2.same s
      k_ownIn
      refine ht _ (r_var rfl ⟨hacc, by k_subL, ?_⟩)
      rw [List.take_add_one, hv]
      rfl
    rintro D2 acc2 H4 nD2 hD2' ⟨s4, rfl⟩
    rw [List.take_length] at hD2'
    have hxD := s4 _ _ hxC
    have hrD := s4 _ _ hrC
    have haD := s4 _ _ haC
    k_ownIn
    refine r_lcL (fun D3 i acc3 H' => Same H4 H' ∧ acc3 = (ws.take i).map V.int) (SqL.of hD2') (by rw [hlen]; omega) (fun x => rfl) ?_ ?_ ?_ ?_
    · intro D3 hD3
      exact ⟨by k_subL, rfl⟩
    · rintro D3 i acc3 H' ⟨s, _⟩
      exact Same.seq s (SqL.of hD2')
    · rintro D3 i v acc3 H' Q' nD3 hv hacc ⟨s, rfl⟩ hq
      obtain ⟨d, hd, hat2⟩ := hAC.at_ hv
      rw [List.getElem?_map] at hd
      cases e : ws[i]? with
      | none => rw [e] at hd; cases hd
      | some w =>
        rw [e] at hd
        cases hd
        have hat3 : At K H' v (.obj "Least" [("weight", .int w)]) := (hat2.same s4).same s
        k_ownIn
        rename_i u hu
        cases hu
        refine hq _ _ hacc ⟨by k_subL, ?_⟩
        rw [List.take_add_one, e, List.map_append]
        rfl
    rintro D3 acc3 H5 nD3 hD3' _ ⟨s5, rfl⟩
    rw [hlen, List.take_length] at hD3'
    k_ownIn
    refine r_eqInts (bs := ws) (cs := ws) (SqL.of hD3') (SqL.of (s5 _ _ haD)) ?_
    exact q_t rfl (q _ (by k_subL))
theorem len_law_several {K : PySem.W.Frag} {vs : List V} {H : Hp} {Q : VK} {E : XK} (h : sp_law_several K vs H Q E) : vs.length = 2 := by
  first | (obtain ⟨rfl, _⟩ := h; rfl) | (obtain ⟨_, rfl, _⟩ := h; rfl) | (obtain ⟨_, _, rfl, _⟩ := h; rfl) | (obtain ⟨_, _, _, rfl, _⟩ := h; rfl) | (obtain ⟨_, _, _, _, rfl, _⟩ := h; rfl) | (obtain ⟨_, _, _, _, _, rfl, _⟩ := h; rfl) | (obtain ⟨_, _, _, _, _, _, rfl, _⟩ := h; rfl) | (obtain ⟨_, _, _, _, _, _, _, rfl, _⟩ := h; rfl) | (obtain ⟨_, _, _, _, _, _, _, _, rfl, _⟩ := h; rfl) | (obtain ⟨_, _, _, _, _, _, _, _, _, rfl, _⟩ := h; rfl) | (obtain ⟨_, _, _, _, _, _, _, _, _, _, rfl, _⟩ := h; rfl) | (obtain ⟨_, _, _, _, _, _, _, _, _, _, _, rfl, _⟩ := h; rfl) | (obtain ⟨_, _, _, _, _, _, _, _, _, _, _, _, rfl, _⟩ := h; rfl) | (obtain ⟨_, _, _, _, _, _, _, _, _, _, _, _, _, rfl, _⟩ := h; rfl)
/-! ### _law_refused -/
def sp_law_refused (K : PySem.W.Frag) : Sp := fun vs H Q _ => ∃ (n : Int) (v : V) (d : Dt), vs = [.int n, v] ∧ 1 ≤ n ∧ n ≤ 6 ∧ At K H v d ∧ d.shortL ∧ d.few ∧ madeB n d = false ∧ ∀ H', Same H H' → Q (.bl true) H'
theorem sp_refused_use {K : PySem.W.Frag} {H : Hp} {Q : VK} {E : XK} {n : Int} {v : V} {d : Dt} (n0 : 1 ≤ n) (n1 : n ≤ 6) (h : At K H v d) (sl : d.shortL) (few : d.few) (b : madeB n d = false) (q : ∀ H', Same H H' → Q (.bl true) H') : sp_law_refused K [.int n, v] H Q E := ⟨n, v, d, rfl, n0, n1, h, sl, few, b, q⟩
def t_law_refused (K : PySem.W.Frag) : TS :=
  (tSeq (tAsg (tC (.bl false)) (gName 2))
    (tSeq (tTryAs K (.ref (ga K "BellError")) 3 (fun W => (tDrop (tCallS (sp_law_made K) (WE W) (tCons (tVar 0) (tCons (tVar 1) tNil)))))
    (fun a cls d => (tSeq (tAsg (tCB (rIsYT K cls d a) (tCons (tVar 3) (tCons (tTup (tCons (tC (.ref (ga K "NoClock"))) (tCons (tC (.ref (ga K "NoHappening"))) (tCons (tC (.ref (ga K "NoRow"))) (tCons (tC (.ref (ga K "NoText"))) (tCons (tC (.ref (ga K "NoWish"))) tNil)))))) tNil))) (gName 4))
    (tAsg (tAndV (tCB (rIsY K cls d a) (tCons (tVar 3) (tCons (tC (.ref (ga K "NoFit"))) tNil))) (tAndV (tCB (rIsY K cls d a) (tCons (tVar 3) (tCons (tC (.ty "ValueError")) tNil))) (tNotV (tVar 4)))) (gName 2)))) (fun _ _ _ _ => False))
    (tRet (tVar 2))))
theorem run_law_refused {K : PySem.W.Frag} {vs : List V} {H : Hp} {Q : VK} {E : XK} (h : sp_law_refused K vs H Q E) (hc : Hc K) (xc : Xc K) : t_law_refused K (Ends.mk (fun _ H' => Q .non H') Q (fun _ _ => False) (fun _ _ => False)) (start ["_law_at", "_law_thing", "_law_found", "e", "_law_other"] vs) H := by
  obtain ⟨n, v, d, rfl, n0, n1, h, sl, few, hb, q⟩ := h
  unfold t_law_refused
  k_ownIn
  refine ⟨n, v, d, rfl, n0, n1, by kd_addB, sl, few, fun z => (by rw [hb] at z; cases z), fun _ H1 s1 => ?_⟩
  k_ownIn
  exact q _ (by k_subL)
theorem len_law_refused {K : PySem.W.Frag} {vs : List V} {H : Hp} {Q : VK} {E : XK} (h : sp_law_refused K vs H Q E) : vs.length = 2 := by
  first | (obtain ⟨rfl, _⟩ := h; rfl) | (obtain ⟨_, rfl, _⟩ := h; rfl) | (obtain ⟨_, _, rfl, _⟩ := h; rfl) | (obtain ⟨_, _, _, rfl, _⟩ := h; rfl) | (obtain ⟨_, _, _, _, rfl, _⟩ := h; rfl) | (obtain ⟨_, _, _, _, _, rfl, _⟩ := h; rfl) | (obtain ⟨_, _, _, _, _, _, rfl, _⟩ := h; rfl) | (obtain ⟨_, _, _, _, _, _, _, rfl, _⟩ := h; rfl) | (obtain ⟨_, _, _, _, _, _, _, _, rfl, _⟩ := h; rfl) | (obtain ⟨_, _, _, _, _, _, _, _, _, rfl, _⟩ := h; rfl) | (obtain ⟨_, _, _, _, _, _, _, _, _, _, rfl, _⟩ := h; rfl) | (obtain ⟨_, _, _, _, _, _, _, _, _, _, _, rfl, _⟩ := h; rfl) | (obtain ⟨_, _, _, _, _, _, _, _, _, _, _, _, rfl, _⟩ := h; rfl) | (obtain ⟨_, _, _, _, _, _, _, _, _, _, _, _, _, rfl, _⟩ := h; rfl)
/-! ### law -/
def sp_law (K : PySem.W.Frag) : Sp := fun vs H Q _ => ∃ (a : Addr) (ns : List Int), vs = [.ref a] ∧ SqL K H a (ns.map V.int) ∧ ns.length ≤ 63 ∧ ∀ H', Q (.bl true) H'
def t_law (K : PySem.W.Frag) : TS :=
  (tSeq (tFor (iList K (tOp rCat (tLst (tCons (tC (.int 0)) tNil)) (tSl (rSlL K) (tVar 0) tNoPart (tPart (tC (.int 10)))))) (gName 1)
    (tSeq (tAsg (tCall (sp_law_begin K) [] E0 (tCons (tVar 1) tNil)) (gName 2))
    (tSeq (tAsg (tCall (sp_law_names K) [] E0 (tCons (tVar 2) (tCons (tC (.int 6)) tNil))) (gName 3))
    (tSeq (tAsg (tCall (sp_law_next K) [] E0 (tCons (tVar 2) (tCons (tC (.int 1000000)) tNil))) (gName 4))
    (tSeq (tAsg (tMake (ga K "Least") (sp_Least_init K) [] E0 (tCons (tVar 4) tNil)) (gName 5))
    (tSeq (tIfS (tOr (tNot (tB (tCall (sp_law_is_kind K) [] E0 (tCons (tMake0 (ga K "Any")) (tCons (tC (.int 0)) tNil))))) (tOr (tNot (tB (tCall (sp_law_is_kind K) [] E0 (tCons (tVar 5) (tCons (tC (.int 3)) tNil))))) (tTest (tOp rNe (tFld K (tVar 5) "weight") (tVar 4))))) (tRet (tC (.bl false))) tNext)
    (tSeq (tIfS (tOr (tNot (tB (tCall (sp_law_named K) [] E0 (tCons (tC (.int 1)) (tCons (tVar 3) tNil))))) (tNot (tB (tCall (sp_law_named K) [] E0 (tCons (tC (.int 2)) (tCons (tVar 3) tNil)))))) (tRet (tC (.bl false))) tNext)
    (tSeq (tAsg (tMake (ga K "Not") (sp_Not_init K) [] E0 (tCons (tVar 5) tNil)) (gName 6))
    (tSeq (tIfS (tOr (tNot (tB (tCall (sp_law_is_kind K) [] E0 (tCons (tVar 6) (tCons (tC (.int 4)) tNil))))) (tOr (tNot (tB (tCall (sp_law_is_kind K) [] E0 (tCons (tFld K (tVar 6) "fit") (tCons (tC (.int 3)) tNil))))) (tTest (tOp rNe (tFld K (tFld K (tVar 6) "fit") "weight") (tVar 4))))) (tRet (tC (.bl false))) tNext)
    (tSeq (tAsg (tLc (iRng1 (tCons (tOp (rI0 fun i j => .int (i + j)) (tC (.int 2)) (tCall (sp_law_next K) [] E0 (tCons (tVar 2) (tCons (tC (.int 3)) tNil)))) tNil)) (gName 10) tYes (tCall (sp_law_next K) [] E0 (tCons (tVar 2) (tCons (tC (.int 1000000)) tNil))) [10]) (gName 7))
    (tSeq (tIfS (tOr (tNot (tB (tCall (sp_law_several K) [] E0 (tCons (tC (.int 5)) (tCons (tVar 7) tNil))))) (tNot (tB (tCall (sp_law_several K) [] E0 (tCons (tC (.int 6)) (tCons (tVar 7) tNil)))))) (tRet (tC (.bl false))) tNext)
    (tFor (iRng2 (tCons (tC (.int 1)) (tCons (tC (.int 7)) tNil))) (gName 8)
    (tSeq (tAsg (tCall (sp_law_odd K) [] E0 (tCons (tVar 8) (tCons (tVar 3) (tCons (tVar 4) (tCons (tVar 6) tNil))))) (gName 9))
    (tFor (iRng1 (tCons (tC (.int 2)) tNil)) (gName 10)
    (tIfS (tNot (tB (tCall (sp_law_refused K) [] E0 (tCons (tVar 8) (tCons (tOp (rIx K) (tVar 9) (tCall (sp_law_next K) [] E0 (tCons (tVar 2) (tCons (tCB (rLen K) (tCons (tVar 9) tNil)) tNil)))) tNil))))) (tRet (tC (.bl false))) tNext)))))))))))))))
    (tRet (tC (.bl true))))
theorem run_law {K : PySem.W.Frag} {vs : List V} {H : Hp} {Q : VK} {E : XK} (h : sp_law K vs H Q E) (hc : Hc K) (xc : Xc K) : t_law K (Ends.mk (fun _ H' => Q .non H') Q (fun _ _ => False) (fun _ _ => False)) (start ["_law_script", "_law_cell", "_law_state", "_law_names_here", "_law_weight", "_law_least", "_law_turned", "_law_weights", "_law_at", "_law_odd_here", "_law_k"] vs) H := by
  obtain ⟨a, ns, rfl, hS, hlen, q⟩ := h
  unfold t_law
  k_ownIn
  refine r_loopL (fun i σ' H' => (∃ v1 v2 v3 v4 v5 v6 v7 v8 v9 v10 : Option V, σ' = [some (.ref a), v1, v2, v3, v4, v5, v6, v7, v8, v9, v10]) ∧ Same _ H') (SqL.of upd_same) ⟨⟨_, _, _, _, _, _, _, _, _, _, rfl⟩, Same.refl _⟩ (fun i σ' H' p => Same.seq p.2 (SqL.of upd_same)) ?_ ?_
  · rintro i x σ' H' N hx ⟨⟨v1, v2, v3, v4, v5, v6, v7, v8, v9, v10, rfl⟩, hs⟩ hN
    obtain ⟨c, rfl⟩ := cells_int (List.mem_of_getElem? hx)
    generalize upd (upd (upd H _ _) _ _) _ _ = H1 at hs hN
    k_ownIn
    rename_i ps w0 hps pn zs w1 Hn lz1 lz nz dz npn hpn hln kpn m w2 m0 m1 xl dl nxl ndl Hl sl hxl y dy Hy nxy sy hxy
    have hat : At K (del Hl ps) (.ref xl) (.obj "Least" [("weight", .int m)]) := .obj (del_at hxl (ne_of hxl (by kcj_m : Hl ps = some w2.o) (by intro z; cases z))) (by decide +kernel) (.cons (.int m) .nil)
    refine sp_is_kind_use 0 (C := "Any") (fs := []) (by kd_addB) rfl rfl (fun H2 s2 => ?_)
    k_ownIn
    refine sp_is_kind_use 3 (C := "Least") (fs := [("weight", .int m)]) (by kd_addB) rfl rfl (fun H3 s3 => ?_)
    k_ownIn
    have npl : pn ≠ ps := Ne.symm (ne_of_none upd_same npn)
    have lz100 : zs.length ≤ 100 := Nat.le_trans lz (by decide)
    refine sp_named_use (.inl rfl) (zs := zs) (by kcj_m) lz1 lz100 nz dz (fun H4 s4 => ?_)
    k_ownIn
    refine sp_named_use (.inr rfl) (zs := zs) (by kcj_m) lz1 lz100 nz dz (fun H5 s5 => ?_)
    k_ownIn
    rename_i xn dn nxn ndn Hnn snn hxn
    have hatn : At K (del Hnn ps) (.ref xn) (.obj "Not" [("fit", .obj "Least" [("weight", .int m)])]) := .obj (del_at hxn (ne_of hxn (by kcj_m : Hnn ps = some w2.o) (by intro z; cases z))) (by decide +kernel) (.cons (by kd_addB) .nil)
    refine sp_is_kind_use 4 (C := "Not") (fs := [("fit", .obj "Least" [("weight", .int m)])]) (by kd_addB) rfl rfl (fun H6 s6 => ?_)
    k_ownIn
    refine sp_is_kind_use 3 (C := "Least") (fs := [("weight", .int m)]) (by kd_addB) rfl rfl (fun H7 s7 => ?_)
    k_ownIn
    rename_i f wf f0 f1
    have hp7 : H7 ps = some w2.o := by kcj_m
    have hn7 : H7 pn = some (.lst (zs.map V.str)) := by kcj_m
    have hx7 : At K (del H7 ps) (.ref xn) (.obj "Not" [("fit", .obj "Least" [("weight", .int m)])]) := hatn.same (kp_deld (Same.kp (Same.trans s6 s7)))
    have kp7 : Kp ps (upd H' ps w0.o) H7 := by k_subL
    have kp7' : Kp ps H7 (upd H7 ps wf.o) := Kp.upd (Kp.refl _ _)
    have hps7 : upd H7 ps wf.o ps = some wf.o := upd_same
    clear hatn hat hxn snn ndn s6 s7 s5 s4 s3 s2 sy sl hxy nxy hxl
    generalize upd H7 ps wf.o = HW at kp7' hps7 ⊢
    refine r_lcR1 (fun D i acc H2 => (∃ ws : List Int, acc = ws.map V.int ∧ ws.length = i ∧ ∀ z ∈ ws, 0 ≤ z) ∧ (∃ w', H2 ps = some (W3.o w')) ∧ Kp ps H7 H2) (by omega) (by omega) (fun x => rfl) ?_ ?_ ?_
    · intro D hD
      exact ⟨⟨[], rfl, rfl, fun z hz => absurd hz List.not_mem_nil⟩, ⟨wf, by kcj_m⟩, by k_subL⟩
    · rintro D i2 acc H2 Q' nD hi hacc ⟨⟨ws, rfl, lw, nw⟩, ⟨w', hw⟩, kp2⟩ hq
      have nDp : D ≠ ps := Ne.symm (ne_of_none hps7 nD)
      k_ownIn
      rename_i g w4 g0 g1
      refine hq _ _ (by rw [upd_ne nDp]; exact hacc) ⟨⟨ws ++ [g], by simp, by simp [lw], fun z hz => ?_⟩, ⟨w4, by rw [upd_ne (Ne.symm nDp)]; exact upd_same⟩, ?_⟩
      · rcases List.mem_append.mp hz with hz | hz
        · exact nw z hz
        · rw [List.mem_singleton] at hz; subst hz; exact g0
      · have : H7 D = none := none_kp hps7 kp7' nD
        k_subL
    rintro D acc H8 nD hD hlenD ⟨⟨ws, rfl, lw, nw⟩, ⟨w5, hw5⟩, kp8⟩
    have hn8 : H8 pn = some (.lst (zs.map V.str)) := kp8 _ _ hn7 npl
    k_ownIn
    refine sp_several_use (.inl rfl) (ws := ws) hD (by rw [lw]; omega) (by rw [lw]; omega) nw (fun H9 s9 => ?_)
    k_ownIn
    refine sp_several_use (.inr rfl) (ws := ws) (by kcj_m) (by rw [lw]; omega) (by rw [lw]; omega) nw (fun H10 s10 => ?_)
    k_ownIn
    have hp10 : H10 ps = some w5.o := by kcj_m
    have hn10 : H10 pn = some (.lst (zs.map V.str)) := by kcj_m
    have hx10 : At K (del H10 ps) (.ref xn) (.obj "Not" [("fit", .obj "Least" [("weight", .int m)])]) := hx7.same (kp_deld (by k_subL))
    have kp10 : Kp ps (upd H' ps w0.o) H10 := by k_subL
    clear hx7 hn7 hp7 kp7 kp8 s9 s10 hn8 hw5 kp7' hps7
    refine r_loopR2 (fun i σ' H2 => (∃ v8 v9 v10 : Option V, σ' = [some (.ref a), some (.int c), some (.ref ps), some (.ref pn), some (.int m), some (.ref xl), some (.ref xn), some (.ref D), v8, v9, v10]) ∧ (∃ w', H2 ps = some (W3.o w')) ∧ Kp ps H10 H2) (by decide) ⟨⟨_, _, _, rfl⟩, ⟨w5, hp10⟩, Kp.refl _ _⟩ ?_ ?_
    · rintro i2 σ' H2 N2 hi2 ⟨⟨v8, v9, v10, rfl⟩, ⟨w6, hw6⟩, kp2⟩ hN2
      have hi2 : i2 < 6 := hi2
      k_ownIn
      refine ⟨1 + (i2 : Int), pn, ps, w6.o, zs, m, .ref xn, _, rfl, by omega, by omega, hw6, npl, kp2 _ _ hn10 npl, lz1, lz100, nz, m0, by omega, hx10.same (kp_deld kp2), fun p xs H3 s3 hp np lx1 lx2 hxs => ?_⟩
      have hw3 := s3 _ _ hw6
      have nps : p ≠ ps := Ne.symm (ne_of_none hw6 np)
      k_ownIn
      refine r_loopR1 (fun i3 σ' H4 => (∃ v10 : Option V, σ' = [some (.ref a), some (.int c), some (.ref ps), some (.ref pn), some (.int m), some (.ref xl), some (.ref xn), some (.ref D), some (.int (1 + (i2 : Int))), some (.ref p), v10]) ∧ (∃ w', H4 ps = some (W3.o w')) ∧ Kp ps H3 H4) (by decide) ⟨⟨_, rfl⟩, ⟨w6, hw3⟩, Kp.refl _ _⟩ ?_ ?_
      · rintro i3 σ' H4 N3 hi3 ⟨⟨v10, rfl⟩, ⟨w7, hw7⟩, kp4⟩ hN3
        have hp4 := kp4 _ _ hp nps
        k_ownIn
        rename_i g w8 g0 g1
        refine r_ixA (fun v => ∃ d, At K (del H3 ps) v d ∧ OddF (1 + (i2 : Int)) d) (by k_places) g0 g1 hxs ?_
        rintro v ⟨d, hd, od, sl, few⟩
        k_ownIn
        refine sp_refused_use (d := d) (by omega) (by omega) (by kd_addB) sl few od (fun H5 s5 => ?_)
        k_ownIn
        exact hN3 _ _ ⟨⟨_, rfl⟩, ⟨w8, by kcj_m⟩, by k_subL⟩
      · rintro σ' H4 ⟨⟨v10, rfl⟩, ⟨w7, hw7⟩, kp4⟩
        k_ownIn
        exact hN2 _ _ ⟨⟨_, _, _, rfl⟩, ⟨w7, hw7⟩, by k_subL⟩
    · rintro σ' H2 ⟨⟨v8, v9, v10, rfl⟩, ⟨w6, hw6⟩, kp2⟩
      k_ownIn
      exact hN _ _ ⟨⟨_, _, _, _, _, _, _, _, _, _, rfl⟩, Same.ofKp hs hps (Kp.trans kp10 kp2)⟩
  · rintro σ' H' ⟨⟨v1, v2, v3, v4, v5, v6, v7, v8, v9, v10, rfl⟩, hs⟩
    k_ownIn
    exact q _
theorem len_law {K : PySem.W.Frag} {vs : List V} {H : Hp} {Q : VK} {E : XK} (h : sp_law K vs H Q E) : vs.length = 1 := by
  first | (obtain ⟨rfl, _⟩ := h; rfl) | (obtain ⟨_, rfl, _⟩ := h; rfl) | (obtain ⟨_, _, rfl, _⟩ := h; rfl) | (obtain ⟨_, _, _, rfl, _⟩ := h; rfl) | (obtain ⟨_, _, _, _, rfl, _⟩ := h; rfl) | (obtain ⟨_, _, _, _, _, rfl, _⟩ := h; rfl) | (obtain ⟨_, _, _, _, _, _, rfl, _⟩ := h; rfl) | (obtain ⟨_, _, _, _, _, _, _, rfl, _⟩ := h; rfl) | (obtain ⟨_, _, _, _, _, _, _, _, rfl, _⟩ := h; rfl) | (obtain ⟨_, _, _, _, _, _, _, _, _, rfl, _⟩ := h; rfl) | (obtain ⟨_, _, _, _, _, _, _, _, _, _, rfl, _⟩ := h; rfl) | (obtain ⟨_, _, _, _, _, _, _, _, _, _, _, rfl, _⟩ := h; rfl) | (obtain ⟨_, _, _, _, _, _, _, _, _, _, _, _, rfl, _⟩ := h; rfl) | (obtain ⟨_, _, _, _, _, _, _, _, _, _, _, _, _, rfl, _⟩ := h; rfl)
section
variable {P : Program} {w : World} {K : PySem.W.Frag} {mg : Str → Option Value} {base : Heap}
theorem sc_is_whole : FnScope ["thing"] ["thing"] (defScope s_is_whole) := ⟨rfl, rfl, rfl, by decide +kernel, rfl, by decide +kernel, by decide +kernel⟩
theorem okA_is_whole (Z : Env K mg) {fd : FuncData} (F : FunD K d_is_whole.name d_is_whole.qual d_is_whole.params d_is_whole.body d_is_whole.scope (d_is_whole.dvs K) (d_is_whole.kws K) (fAd K d_is_whole.at_) fd) : FnOk P w K mg base CX0 1 (ga K "is_whole") fd ["thing"] (sp_is_whole K) := by
  have z_bool := Z.free 0 (x := "bool") rfl
  have z_int := Z.free 1 (x := "int") rfl
  have z_isinstance := Z.free 2 (x := "isinstance") rfl
  have hc : Hc K := Z.x 0 rfl
  have xc : Xc K := Z.x 1 rfl
  refine F.ok (CX := CX0) sc_is_whole (fun vs H Q E h => len_is_whole h) (fun cdv A outer s H vs Q E hr h => ⟨t_is_whole K, PSs.nox ?_, run_is_whole h (Z.x 0 rfl) (Z.x 1 rfl)⟩)
  exact (pss_one (ps_ret (pe_and (pe_callB call_isi (by rfl) z_isinstance (by decide +kernel) (pa_cons (pv 0) (pa_cons (pe_bltn (v := .ty "int") (by rfl) z_int (by decide +kernel) rfl) pa_nil))) (pe_one (pe_not (pe_callB call_isi (by rfl) z_isinstance (by decide +kernel) (pa_cons (pv 0) (pa_cons (pe_bltn (v := .ty "bool") (by rfl) z_bool (by decide +kernel) rfl) pa_nil))))))))
theorem ok_is_whole (Z : Env K mg) : ∃ fd, FnOk P w K mg base CX0 1 (ga K "is_whole") fd ["thing"] (sp_is_whole K) ∧ Binds K fd ["thing"] [] ∧ PySem.W.keepIn K (.ref (ga K "is_whole")) = true := by
  obtain ⟨fd, F⟩ := Z.c.def_ 0 (d := d_is_whole) rfl
  exact ⟨fd, okA_is_whole Z F, F.bindsN fun _ _ _ _ _ _ us hl => match us, hl with | [_], _ => rfl, F.kp⟩
theorem sc_is_weight : FnScope ["thing"] ["thing"] (defScope s_is_weight) := ⟨rfl, rfl, rfl, by decide +kernel, rfl, by decide +kernel, by decide +kernel⟩
theorem okA_is_weight (Z : Env K mg) {fd : FuncData} (F : FunD K d_is_weight.name d_is_weight.qual d_is_weight.params d_is_weight.body d_is_weight.scope (d_is_weight.dvs K) (d_is_weight.kws K) (fAd K d_is_weight.at_) fd) : FnOk P w K mg base CX0 2 (ga K "is_weight") fd ["thing"] (sp_is_weight K) := by
  obtain ⟨fd_is_whole, G_is_whole, b_is_whole, k_is_whole⟩ := ok_is_whole (P := P) (w := w) (base := base) Z
  have g_is_whole := Z.glo 3 (x := "is_whole") rfl
  have hc : Hc K := Z.x 0 rfl
  have xc : Xc K := Z.x 1 rfl
  refine F.ok (CX := CX0) sc_is_weight (fun vs H Q E h => len_is_weight h) (fun cdv A outer s H vs Q E hr h => ⟨t_is_weight K, PSs.nox ?_, run_is_weight h (Z.x 0 rfl) (Z.x 1 rfl)⟩)
  exact (pss_one (ps_ret (pe_and (pe_call G_is_whole (hr.mono (by decide)) rfl g_is_whole k_is_whole b_is_whole .nil pass0 (pa_cons (pv 0) pa_nil)) (pe_one (pe_cmpR op_ge (pv 0) pe_int (nomark _))))))
theorem ok_is_weight (Z : Env K mg) : ∃ fd, FnOk P w K mg base CX0 2 (ga K "is_weight") fd ["thing"] (sp_is_weight K) ∧ Binds K fd ["thing"] [] ∧ PySem.W.keepIn K (.ref (ga K "is_weight")) = true := by
  obtain ⟨fd, F⟩ := Z.c.def_ 1 (d := d_is_weight) rfl
  exact ⟨fd, okA_is_weight Z F, F.bindsN fun _ _ _ _ _ _ us hl => match us, hl with | [_], _ => rfl, F.kp⟩
theorem sc_Least_init : FnScope ["self", "weight"] ["self", "weight"] (defScope s_Least_init) := ⟨rfl, rfl, rfl, by decide +kernel, rfl, by decide +kernel, by decide +kernel⟩
theorem okA_Least_init (Z : Env K mg) {fd : FuncData} (F : FunD K d_Least_init.name d_Least_init.qual d_Least_init.params d_Least_init.body d_Least_init.scope (d_Least_init.dvs K) (d_Least_init.kws K) (fAd K d_Least_init.at_) fd) : FnOk P w K mg base (L2.CX P w) 3 (ma K (ga K "Least") "__init__") fd ["self", "weight"] (sp_Least_init K) := by
  obtain ⟨fd_is_weight, G_is_weight, b_is_weight, k_is_weight⟩ := ok_is_weight (P := P) (w := w) (base := base) Z
  have g_NoFit := Z.glo 4 (x := "NoFit") rfl
  have g_is_weight := Z.glo 5 (x := "is_weight") rfl
  have hc : Hc K := Z.x 0 rfl
  have xc : Xc K := Z.x 1 rfl
  have x_NoFit := exc_ok (Z.c.fact 6 (f := .exc "NoFit") rfl)
  refine F.ok (CX := (L2.CX P w)) sc_Least_init (fun vs H Q E h => len_Least_init h) (fun cdv A outer s H vs Q E hr h => ⟨t_Least_init K E, ?_, run_Least_init h (Z.x 0 rfl) (Z.x 1 rfl)⟩)
  exact (pss_cons (ps_if (pt_not (pt_val (pe_call G_is_weight (hr.mono (by decide)) rfl g_is_weight k_is_weight b_is_weight .nil pass0 (pa_cons (pv 1) pa_nil)))) (pss_one (ps_raise rfl (takes_of rfl rfl rfl rfl) (pmk_own PySem.F.excBase_ValueError x_NoFit.1 g_NoFit x_NoFit.2.1 (raises_own x_NoFit.2.2.1 x_NoFit.2.2.2) (by exact rfl)))) pss_nil)
    (pss_one (ps_fld (pv 0) (pv 1) rfl)))
theorem ok_Least_init (Z : Env K mg) : ∃ fd, FnOk P w K mg base (L2.CX P w) 3 (ma K (ga K "Least") "__init__") fd ["self", "weight"] (sp_Least_init K) ∧ Binds K fd ["self", "weight"] [] ∧ PySem.W.keepIn K (.ref (ma K (ga K "Least") "__init__")) = true := by
  obtain ⟨fd, F⟩ := Z.c.def_ 2 (d := d_Least_init) rfl
  exact ⟨fd, okA_Least_init Z F, F.bindsN fun _ _ _ _ _ _ us hl => match us, hl with | [_, _], _ => rfl, F.kp⟩
theorem sc_Not_init : FnScope ["self", "fit"] ["self", "fit"] (defScope s_Not_init) := ⟨rfl, rfl, rfl, by decide +kernel, rfl, by decide +kernel, by decide +kernel⟩
theorem okA_Not_init (Z : Env K mg) {fd : FuncData} (F : FunD K d_Not_init.name d_Not_init.qual d_Not_init.params d_Not_init.body d_Not_init.scope (d_Not_init.dvs K) (d_Not_init.kws K) (fAd K d_Not_init.at_) fd) : FnOk P w K mg base (L2.CX P w) 1 (ma K (ga K "Not") "__init__") fd ["self", "fit"] (sp_Not_init K) := by
  have g_Fit := Z.glo 7 (x := "Fit") rfl
  have g_NoFit := Z.glo 4 (x := "NoFit") rfl
  have z_isinstance := Z.free 2 (x := "isinstance") rfl
  have hc : Hc K := Z.x 0 rfl
  have xc : Xc K := Z.x 1 rfl
  have x_NoFit := exc_ok (Z.c.fact 6 (f := .exc "NoFit") rfl)
  refine F.ok (CX := (L2.CX P w)) sc_Not_init (fun vs H Q E h => len_Not_init h) (fun cdv A outer s H vs Q E hr h => ⟨t_Not_init K E, ?_, run_Not_init h (Z.x 0 rfl) (Z.x 1 rfl)⟩)
  exact (pss_cons (ps_if (pt_not (pt_val (pe_callB call_isi (by rfl) z_isinstance (by decide +kernel) (pa_cons (pv 1) (pa_cons (pe_glob rfl g_Fit rfl) pa_nil))))) (pss_one (ps_raise rfl (takes_of rfl rfl rfl rfl) (pmk_own PySem.F.excBase_ValueError x_NoFit.1 g_NoFit x_NoFit.2.1 (raises_own x_NoFit.2.2.1 x_NoFit.2.2.2) (by exact rfl)))) pss_nil)
    (pss_one (ps_fld (pv 0) (pv 1) rfl)))
theorem ok_Not_init (Z : Env K mg) : ∃ fd, FnOk P w K mg base (L2.CX P w) 1 (ma K (ga K "Not") "__init__") fd ["self", "fit"] (sp_Not_init K) ∧ Binds K fd ["self", "fit"] [] ∧ PySem.W.keepIn K (.ref (ma K (ga K "Not") "__init__")) = true := by
  obtain ⟨fd, F⟩ := Z.c.def_ 3 (d := d_Not_init) rfl
  exact ⟨fd, okA_Not_init Z F, F.bindsN fun _ _ _ _ _ _ us hl => match us, hl with | [_, _], _ => rfl, F.kp⟩
theorem sc_law_begin : FnScope ["_law_cell"] ["_law_cell"] (defScope s_law_begin) := ⟨rfl, rfl, rfl, by decide +kernel, rfl, by decide +kernel, by decide +kernel⟩
theorem okA_law_begin (Z : Env K mg) {fd : FuncData} (F : FunD K d_law_begin.name d_law_begin.qual d_law_begin.params d_law_begin.body d_law_begin.scope (d_law_begin.dvs K) (d_law_begin.kws K) (fAd K d_law_begin.at_) fd) : FnOk P w K mg base CX0 1 (ga K "_law_begin") fd ["_law_cell"] (sp_law_begin K) := by
  have hc : Hc K := Z.x 0 rfl
  have xc : Xc K := Z.x 1 rfl
  refine F.ok (CX := CX0) sc_law_begin (fun vs H Q E h => len_law_begin h) (fun cdv A outer s H vs Q E hr h => ⟨t_law_begin K, PSs.nox ?_, run_law_begin h (Z.x 0 rfl) (Z.x 1 rfl)⟩)
  exact (pss_one (ps_ret (pe_lst (pa_cons (pe_op op_mul (pe_op op_fdiv (pv 0) pe_int) (pe_op op_sub pe_int (pe_op op_mod (pv 0) pe_int))) (pa_cons (pe_op op_mod (pv 0) pe_int) (pa_cons pe_int pa_nil))))))
theorem ok_law_begin (Z : Env K mg) : ∃ fd, FnOk P w K mg base CX0 1 (ga K "_law_begin") fd ["_law_cell"] (sp_law_begin K) ∧ Binds K fd ["_law_cell"] [] ∧ PySem.W.keepIn K (.ref (ga K "_law_begin")) = true := by
  obtain ⟨fd, F⟩ := Z.c.def_ 4 (d := d_law_begin) rfl
  exact ⟨fd, okA_law_begin Z F, F.bindsN fun _ _ _ _ _ _ us hl => match us, hl with | [_], _ => rfl, F.kp⟩
theorem sc_law_next : FnScope ["_law_state", "_law_base", "_law_found", "_law_number"] ["_law_state", "_law_base"] (defScope s_law_next) := ⟨rfl, rfl, rfl, by decide +kernel, rfl, by decide +kernel, by decide +kernel⟩
theorem okA_law_next (Z : Env K mg) {fd : FuncData} (F : FunD K d_law_next.name d_law_next.qual d_law_next.params d_law_next.body d_law_next.scope (d_law_next.dvs K) (d_law_next.kws K) (fAd K d_law_next.at_) fd) : FnOk P w K mg base CX0 1 (ga K "_law_next") fd ["_law_state", "_law_base"] (sp_law_next K) := by
  have hc : Hc K := Z.x 0 rfl
  have xc : Xc K := Z.x 1 rfl
  refine F.ok (CX := CX0) sc_law_next (fun vs H Q E h => len_law_next h) (fun cdv A outer s H vs Q E hr h => ⟨t_law_next K, PSs.nox ?_, run_law_next h (Z.x 0 rfl) (Z.x 1 rfl)⟩)
  exact (pss_cons (ps_if (pt_cmpR op_gt (pe_ix ix_seq (pv 0) pe_int (fun _ _ => rfl)) pe_int (nomark _)) (pss_cons (ps_set (i := 2) sc_law_next.nd rfl (Or.inl rfl) (pe_op op_mod (pe_ix ix_seq (pv 0) pe_int (fun _ _ => rfl)) (pv 1)))
    (pss_cons (ps_asg (pe_op op_fdivW (pe_ix ix_seq (pv 0) pe_int (fun _ _ => rfl)) (pv 1)) (pg_sub (pv 0) pe_int set_list))
    (pss_one (ps_ret (pv 2))))) pss_nil)
    (pss_cons (ps_asg (pe_op op_add (pe_ix ix_seq (pv 0) pe_int (fun _ _ => rfl)) pe_int) (pg_sub (pv 0) pe_int set_list))
    (pss_cons (ps_set (i := 3) sc_law_next.nd rfl (Or.inl rfl) (pe_op op_mod (pe_op op_mul (pe_op op_add (pe_op op_add (pe_ix ix_seq (pv 0) pe_int (fun _ _ => rfl)) (pe_op op_mul pe_int (pe_ix ix_seq (pv 0) pe_int (fun _ _ => rfl)))) pe_int) pe_int) pe_int))
    (pss_cons (ps_set (i := 3) sc_law_next.nd rfl (Or.inl rfl) (pe_op op_mod (pe_op op_mul (pv 3) (pe_op op_add (pe_op op_fdiv (pv 3) pe_int) pe_int)) pe_int))
    (pss_cons (ps_set (i := 3) sc_law_next.nd rfl (Or.inl rfl) (pe_op op_mod (pe_op op_mul (pv 3) (pe_op op_add (pe_op op_fdiv (pv 3) pe_int) pe_int)) pe_int))
    (pss_one (ps_ret (pe_op op_mod (pe_op op_fdiv (pv 3) pe_int) (pv 1)))))))))
theorem ok_law_next (Z : Env K mg) : ∃ fd, FnOk P w K mg base CX0 1 (ga K "_law_next") fd ["_law_state", "_law_base"] (sp_law_next K) ∧ Binds K fd ["_law_state", "_law_base"] [] ∧ PySem.W.keepIn K (.ref (ga K "_law_next")) = true := by
  obtain ⟨fd, F⟩ := Z.c.def_ 5 (d := d_law_next) rfl
  exact ⟨fd, okA_law_next Z F, F.bindsN fun _ _ _ _ _ _ us hl => match us, hl with | [_, _], _ => rfl, F.kp⟩
theorem sc_law_name : FnScope ["_law_state", "_law_letters", "_law_way", "_law_some", "_law_word", "_law_at", "_law_k"] ["_law_state"] (defScope s_law_name) := ⟨rfl, rfl, rfl, by decide +kernel, rfl, by decide +kernel, by decide +kernel⟩
theorem okA_law_name (Z : Env K mg) {fd : FuncData} (F : FunD K d_law_name.name d_law_name.qual d_law_name.params d_law_name.body d_law_name.scope (d_law_name.dvs K) (d_law_name.kws K) (fAd K d_law_name.at_) fd) : FnOk P w K mg base CX0 2 (ga K "_law_name") fd ["_law_state"] (sp_law_name K) := by
  obtain ⟨fd_law_next, G_law_next, b_law_next, k_law_next⟩ := ok_law_next (P := P) (w := w) (base := base) Z
  have g__law_next := Z.glo 8 (x := "_law_next") rfl
  have z_len := Z.free 9 (x := "len") rfl
  have z_range := Z.free 10 (x := "range") rfl
  have hc : Hc K := Z.x 0 rfl
  have xc : Xc K := Z.x 1 rfl
  refine F.ok (CX := CX0) sc_law_name (fun vs H Q E h => len_law_name h) (fun cdv A outer s H vs Q E hr h => ⟨t_law_name K, PSs.nox ?_, run_law_name h (Z.x 0 rfl) (Z.x 1 rfl)⟩)
  exact (pss_cons (ps_set (i := 1) sc_law_name.nd rfl (Or.inr rfl) pe_str)
    (pss_cons (ps_set (i := 2) sc_law_name.nd rfl (Or.inl rfl) (pe_call G_law_next (hr.mono (by decide)) rfl g__law_next k_law_next b_law_next .nil pass0 (pa_cons (pv 0) (pa_cons pe_int pa_nil))))
    (pss_cons (ps_if (pt_cmpR op_eq (pv 2) pe_int (nomark _)) (pss_cons (ps_set (i := 3) sc_law_name.nd rfl (Or.inl rfl) (pe_lst (pa_cons pe_str (pa_cons pe_str (pa_cons pe_str (pa_cons pe_str (pa_cons pe_str (pa_cons pe_str (pa_cons pe_str (pa_cons pe_str (pa_cons pe_str (pa_cons pe_str (pa_cons pe_str (pa_cons pe_str (pa_cons pe_str pa_nil)))))))))))))))
    (pss_one (ps_ret (pe_ix ix_seq (pe_op op_cat (pv 3) (pe_lst (pa_cons pe_str (pa_cons pe_str (pa_cons pe_str pa_nil))))) (pe_call G_law_next (hr.mono (by decide)) rfl g__law_next k_law_next b_law_next .nil pass0 (pa_cons (pv 0) (pa_cons pe_int pa_nil))) (fun _ _ => rfl))))) pss_nil)
    (pss_cons (ps_if (pt_cmpR op_eq (pv 2) pe_int (nomark _)) (pss_cons (ps_set (i := 4) sc_law_name.nd rfl (Or.inl rfl) (pe_slice sl_str pe_str po_none (po_some (pe_op op_add pe_int (pe_call G_law_next (hr.mono (by decide)) rfl g__law_next k_law_next b_law_next .nil pass0 (pa_cons (pv 0) (pa_cons pe_int pa_nil)))))))
    (pss_cons (ps_set (i := 5) sc_law_name.nd rfl (Or.inl rfl) (pe_call G_law_next (hr.mono (by decide)) rfl g__law_next k_law_next b_law_next .nil pass0 (pa_cons (pv 0) (pa_cons (pe_callB call_len (by rfl) z_len (by decide +kernel) (pa_cons (pv 4) pa_nil)) pa_nil))))
    (pss_one (ps_ret (pe_op op_catS (pe_op op_catS (pe_slice sl_str (pv 4) po_none (po_some (pv 5))) (pe_ix ix_seq pe_str (pe_call G_law_next (hr.mono (by decide)) rfl g__law_next k_law_next b_law_next .nil pass0 (pa_cons (pv 0) (pa_cons pe_int pa_nil))) (fun _ _ => rfl))) (pe_slice sl_str (pv 4) (po_some (pe_op op_add (pv 5) pe_int)) po_none)))))) pss_nil)
    (pss_one (ps_ret (pe_join pe_str (pe_lc (own := [("_law_k", 6)]) (g := gName 6) (tt := tYes) rfl sc_law_name.nd (pi_range1 rfl z_range (pa_cons (pe_op op_add pe_int (pe_call G_law_next (hr.mono (by decide)) rfl g__law_next k_law_next b_law_next .nil pass0 (pa_cons (pv 0) (pa_cons pe_int pa_nil)))) pa_nil)) (blkOk_by (own := [("_law_k", 6)]) (N := ["_law_state", "_law_letters", "_law_way", "_law_some", "_law_word", "_law_at", "_law_k"]) (sc := defScope s_law_name) (by decide +kernel)) (fun _ _ _ _ _ => pg_name (i := 6) sc_law_name.nd rfl (Or.inl rfl)) (fun _ _ _ _ _ => pts_nil) (fun _ _ _ _ _ => (pe_ix ix_seq (pv 1) (pe_call G_law_next (hr.mono (by decide)) rfl g__law_next k_law_next b_law_next .nil pass0 (pa_cons (pv 0) (pa_cons pe_int pa_nil))) (fun _ _ => rfl)))))))))))
theorem ok_law_name (Z : Env K mg) : ∃ fd, FnOk P w K mg base CX0 2 (ga K "_law_name") fd ["_law_state"] (sp_law_name K) ∧ Binds K fd ["_law_state"] [] ∧ PySem.W.keepIn K (.ref (ga K "_law_name")) = true := by
  obtain ⟨fd, F⟩ := Z.c.def_ 6 (d := d_law_name) rfl
  exact ⟨fd, okA_law_name Z F, F.bindsN fun _ _ _ _ _ _ us hl => match us, hl with | [_], _ => rfl, F.kp⟩
theorem sc_law_names : FnScope ["_law_state", "_law_most", "_law_found", "_law_k", "_law_name_here"] ["_law_state", "_law_most"] (defScope s_law_names) := ⟨rfl, rfl, rfl, by decide +kernel, rfl, by decide +kernel, by decide +kernel⟩
theorem okA_law_names (Z : Env K mg) {fd : FuncData} (F : FunD K d_law_names.name d_law_names.qual d_law_names.params d_law_names.body d_law_names.scope (d_law_names.dvs K) (d_law_names.kws K) (fAd K d_law_names.at_) fd) : FnOk P w K mg base CX0 3 (ga K "_law_names") fd ["_law_state", "_law_most"] (sp_law_names K) := by
  obtain ⟨fd_law_name, G_law_name, b_law_name, k_law_name⟩ := ok_law_name (P := P) (w := w) (base := base) Z
  obtain ⟨fd_law_next, G_law_next, b_law_next, k_law_next⟩ := ok_law_next (P := P) (w := w) (base := base) Z
  have g__law_name := Z.glo 11 (x := "_law_name") rfl
  have g__law_next := Z.glo 8 (x := "_law_next") rfl
  have z_range := Z.free 10 (x := "range") rfl
  have hc : Hc K := Z.x 0 rfl
  have xc : Xc K := Z.x 1 rfl
  refine F.ok (CX := CX0) sc_law_names (fun vs H Q E h => len_law_names h) (fun cdv A outer s H vs Q E hr h => ⟨t_law_names K, PSs.nox ?_, run_law_names h (Z.x 0 rfl) (Z.x 1 rfl)⟩)
  exact (pss_cons (ps_set (i := 2) sc_law_names.nd rfl (Or.inl rfl) (pe_lst pa_nil))
    (pss_cons (ps_for PassesOwn.never rfl (pi_range1 rfl z_range (pa_cons (pe_op op_add pe_int (pe_call G_law_next (hr.mono (by decide)) rfl g__law_next k_law_next b_law_next .nil pass0 (pa_cons (pv 0) (pa_cons (pv 1) pa_nil)))) pa_nil)) (pg_name (i := 3) sc_law_names.nd rfl (Or.inl rfl))
    (pss_cons (ps_set (i := 4) sc_law_names.nd rfl (Or.inl rfl) (pe_call G_law_name (hr.mono (by decide)) rfl g__law_name k_law_name b_law_name .nil pass0 (pa_cons (pv 0) pa_nil)))
    (pss_one (ps_if (pt_cmpR op_notIn_seq (pv 4) (pv 2) (by rfl)) (pss_one (ps_expr (pe_bm PySem.F.plainAttrs_list PySem.F.slot_list_append PySem.F.type_list_append mt_append (pv 2) (pa_cons (pv 4) pa_nil)))) pss_nil))))
    (pss_one (ps_ret (pv 2)))))
theorem ok_law_names (Z : Env K mg) : ∃ fd, FnOk P w K mg base CX0 3 (ga K "_law_names") fd ["_law_state", "_law_most"] (sp_law_names K) ∧ Binds K fd ["_law_state", "_law_most"] [] ∧ PySem.W.keepIn K (.ref (ga K "_law_names")) = true := by
  obtain ⟨fd, F⟩ := Z.c.def_ 7 (d := d_law_names) rfl
  exact ⟨fd, okA_law_names Z F, F.bindsN fun _ _ _ _ _ _ us hl => match us, hl with | [_, _], _ => rfl, F.kp⟩
theorem sc_is_name : FnScope ["thing", "sign"] ["thing"] (defScope s_is_name) := ⟨rfl, rfl, rfl, by decide +kernel, rfl, by decide +kernel, by decide +kernel⟩
theorem okA_is_name (Z : Env K mg) {fd : FuncData} (F : FunD K d_is_name.name d_is_name.qual d_is_name.params d_is_name.body d_is_name.scope (d_is_name.dvs K) (d_is_name.kws K) (fAd K d_is_name.at_) fd) : FnOk P w K mg base CX0 1 (ga K "is_name") fd ["thing"] (sp_is_name K) := by
  have z_all := Z.free 12 (x := "all") rfl
  have z_isinstance := Z.free 2 (x := "isinstance") rfl
  have z_len := Z.free 9 (x := "len") rfl
  have z_str := Z.free 13 (x := "str") rfl
  have g_MOST_LETTERS := Z.int 14 (x := "MOST_LETTERS") (i := 8) rfl
  have g_LETTERS := Z.str 15 (x := "LETTERS") (z := "abcdefghijklmnopqrstuvwxyz") rfl
  have hc : Hc K := Z.x 0 rfl
  have xc : Xc K := Z.x 1 rfl
  refine F.ok (CX := CX0) sc_is_name (fun vs H Q E h => len_is_name h) (fun cdv A outer s H vs Q E hr h => ⟨t_is_name K, PSs.nox ?_, run_is_name h (Z.x 0 rfl) (Z.x 1 rfl)⟩)
  exact (pss_cons (ps_if (PW.pt (pw_or (pt_not (pt_val (pe_callB call_isi (by rfl) z_isinstance (by decide +kernel) (pa_cons (pv 0) (pa_cons (pe_bltn (v := .ty "str") (by rfl) z_str (by decide +kernel) rfl) pa_nil))))) (pw_or (pt_cmpR op_eq (pv 0) pe_str (nomark _)) (pw_or1 (pt_cmpR op_gt (pe_callB call_len (by rfl) z_len (by decide +kernel) (pa_cons (pv 0) pa_nil)) (pe_glob rfl (Classical.choose_spec g_MOST_LETTERS) ⟨_, rfl⟩) (nomark _)))))) (pss_one (ps_ret pe_bl)) pss_nil)
    (pss_one (ps_ret (pe_callB (cr_all rfl) (by rfl) z_all (by decide +kernel) (pa_cons (pe_lc (own := [("sign", 1)]) (g := gName 1) (tt := tYes) rfl sc_is_name.nd (pi_str (pv 0)) (blkOk_by (own := [("sign", 1)]) (N := ["thing", "sign"]) (sc := defScope s_is_name) (by decide +kernel)) (fun _ _ _ _ _ => pg_name (i := 1) sc_is_name.nd rfl (Or.inl rfl)) (fun _ _ _ _ _ => pts_nil) (fun _ _ _ _ _ => (pe_cmpR op_in_sign (pv 1) (pe_glob rfl (Classical.choose_spec g_LETTERS) ⟨_, rfl⟩) (by rfl)))) pa_nil)))))
theorem ok_is_name (Z : Env K mg) : ∃ fd, FnOk P w K mg base CX0 1 (ga K "is_name") fd ["thing"] (sp_is_name K) ∧ Binds K fd ["thing"] [] ∧ PySem.W.keepIn K (.ref (ga K "is_name")) = true := by
  obtain ⟨fd, F⟩ := Z.c.def_ 8 (d := d_is_name) rfl
  exact ⟨fd, okA_is_name Z F, F.bindsN fun _ _ _ _ _ _ us hl => match us, hl with | [_], _ => rfl, F.kp⟩
theorem sc_Happening_init : FnScope ["self", "kind", "place", "weight"] ["self", "kind", "place", "weight"] (defScope s_Happening_init) := ⟨rfl, rfl, rfl, by decide +kernel, rfl, by decide +kernel, by decide +kernel⟩
theorem okA_Happening_init (Z : Env K mg) {fd : FuncData} (F : FunD K d_Happening_init.name d_Happening_init.qual d_Happening_init.params d_Happening_init.body d_Happening_init.scope (d_Happening_init.dvs K) (d_Happening_init.kws K) (fAd K d_Happening_init.at_) fd) : FnOk P w K mg base (L2.CX P w) 3 (ma K (ga K "Happening") "__init__") fd ["self", "kind", "place", "weight"] (sp_Happening_init K) := by
  obtain ⟨fd_is_name, G_is_name, b_is_name, k_is_name⟩ := ok_is_name (P := P) (w := w) (base := base) Z
  obtain ⟨fd_is_weight, G_is_weight, b_is_weight, k_is_weight⟩ := ok_is_weight (P := P) (w := w) (base := base) Z
  have g_NoHappening := Z.glo 16 (x := "NoHappening") rfl
  have g_is_name := Z.glo 17 (x := "is_name") rfl
  have g_is_weight := Z.glo 5 (x := "is_weight") rfl
  have hc : Hc K := Z.x 0 rfl
  have xc : Xc K := Z.x 1 rfl
  have x_NoHappening := exc_ok (Z.c.fact 18 (f := .exc "NoHappening") rfl)
  refine F.ok (CX := (L2.CX P w)) sc_Happening_init (fun vs H Q E h => len_Happening_init h) (fun cdv A outer s H vs Q E hr h => ⟨t_Happening_init K E, ?_, run_Happening_init h (Z.x 0 rfl) (Z.x 1 rfl)⟩)
  exact (pss_cons (ps_if (PW.pt (pw_or (pt_not (pt_val (pe_call G_is_name (hr.mono (by decide)) rfl g_is_name k_is_name b_is_name .nil pass0 (pa_cons (pv 1) pa_nil)))) (pw_or (pt_not (pt_val (pe_call G_is_name (hr.mono (by decide)) rfl g_is_name k_is_name b_is_name .nil pass0 (pa_cons (pv 2) pa_nil)))) (pw_or1 (pt_not (pt_val (pe_call G_is_weight (hr.mono (by decide)) rfl g_is_weight k_is_weight b_is_weight .nil pass0 (pa_cons (pv 3) pa_nil)))))))) (pss_one (ps_raise rfl (takes_of rfl rfl rfl rfl) (pmk_own PySem.F.excBase_ValueError x_NoHappening.1 g_NoHappening x_NoHappening.2.1 (raises_own x_NoHappening.2.2.1 x_NoHappening.2.2.2) (by exact rfl)))) pss_nil)
    (pss_cons (ps_fld (pv 0) (pv 1) rfl)
    (pss_cons (ps_fld (pv 0) (pv 2) rfl)
    (pss_one (ps_fld (pv 0) (pv 3) rfl)))))
theorem ok_Happening_init (Z : Env K mg) : ∃ fd, FnOk P w K mg base (L2.CX P w) 3 (ma K (ga K "Happening") "__init__") fd ["self", "kind", "place", "weight"] (sp_Happening_init K) ∧ Binds K fd ["self", "kind", "place", "weight"] [] ∧ PySem.W.keepIn K (.ref (ma K (ga K "Happening") "__init__")) = true := by
  obtain ⟨fd, F⟩ := Z.c.def_ 9 (d := d_Happening_init) rfl
  exact ⟨fd, okA_Happening_init Z F, F.bindsN fun _ _ _ _ _ _ us hl => match us, hl with | [_, _, _, _], _ => rfl, F.kp⟩
theorem sc_law_odd : FnScope ["_law_at", "_law_names_here", "_law_weight", "_law_fit", "_law_bad", "_law_odd_here", "_law_one"] ["_law_at", "_law_names_here", "_law_weight", "_law_fit"] (defScope s_law_odd) := ⟨rfl, rfl, rfl, by decide +kernel, rfl, by decide +kernel, by decide +kernel⟩
theorem okA_law_odd (Z : Env K mg) {fd : FuncData} (F : FunD K d_law_odd.name d_law_odd.qual d_law_odd.params d_law_odd.body d_law_odd.scope (d_law_odd.dvs K) (d_law_odd.kws K) (fAd K d_law_odd.at_) fd) : FnOk P w K mg base CX0 5 (ga K "_law_odd") fd ["_law_at", "_law_names_here", "_law_weight", "_law_fit"] (sp_law_odd K) := by
  obtain ⟨fd_Happening_init, G_Happening_init, b_Happening_init, k_Happening_init⟩ := ok_Happening_init (P := P) (w := w) (base := base) Z
  have g_Happening := Z.glo 19 (x := "Happening") rfl
  have z_str := Z.free 13 (x := "str") rfl
  have z_tuple := Z.free 20 (x := "tuple") rfl
  have hc : Hc K := Z.x 0 rfl
  have xc : Xc K := Z.x 1 rfl
  have mk_Happening := mkr_ok (Z.c.fact 21 (f := .mkr "Happening") rfl)
  refine F.ok (CX := CX0) sc_law_odd (fun vs H Q E h => len_law_odd h) (fun cdv A outer s H vs Q E hr h => ⟨t_law_odd K, PSs.nox ?_, run_law_odd h (Z.x 0 rfl) (Z.x 1 rfl)⟩)
  exact (pss_cons (ps_if (pt_cmpR op_lt (pv 0) pe_int (nomark _)) (pss_cons (ps_set (i := 4) sc_law_odd.nd rfl (Or.inl rfl) (pe_lst (pa_cons pe_str (pa_cons pe_str (pa_cons (pe_op op_catS (pe_ix ix_seq (pv 1) pe_int (fun _ _ => rfl)) pe_str) (pa_cons pe_non (pa_cons pe_int (pa_cons pe_bl (pa_cons (pe_lst (pa_cons (pe_ix ix_seq (pv 1) pe_int (fun _ _ => rfl)) pa_nil)) pa_nil)))))))))
    (pss_cons (ps_set (i := 5) sc_law_odd.nd rfl (Or.inl rfl) (pe_op op_cat (pe_lc (own := [("_law_one", 6)]) (g := gName 6) (tt := tYes) rfl sc_law_odd.nd (pi_list (pv 4)) (blkOk_by (own := [("_law_one", 6)]) (N := ["_law_at", "_law_names_here", "_law_weight", "_law_fit", "_law_bad", "_law_odd_here", "_law_one"]) (sc := defScope s_law_odd) (by decide +kernel)) (fun _ _ _ _ _ => pg_name (i := 6) sc_law_odd.nd rfl (Or.inl rfl)) (fun _ _ _ _ _ => pts_nil) (fun _ _ _ _ _ => (pe_op op_cat (pv 1) (pe_lst (pa_cons (pv 6) pa_nil))))) (pe_lc (own := [("_law_one", 6)]) (g := gName 6) (tt := tYes) rfl sc_law_odd.nd (pi_list (pv 4)) (blkOk_by (own := [("_law_one", 6)]) (N := ["_law_at", "_law_names_here", "_law_weight", "_law_fit", "_law_bad", "_law_odd_here", "_law_one"]) (sc := defScope s_law_odd) (by decide +kernel)) (fun _ _ _ _ _ => pg_name (i := 6) sc_law_odd.nd rfl (Or.inl rfl)) (fun _ _ _ _ _ => pts_nil) (fun _ _ _ _ _ => (pe_op op_cat (pe_lst (pa_cons (pv 6) pa_nil)) (pv 1))))))
    (pss_one (ps_ret (pe_op op_cat (pv 5) (pe_lst (pa_cons (pe_lst pa_nil) (pa_cons (pe_callTy call_tuple_of (by rfl) z_tuple (by decide +kernel) (pa_cons (pv 1) pa_nil)) (pa_cons (pe_ix ix_seq (pv 1) pe_int (fun _ _ => rfl)) (pa_cons pe_non (pa_cons pe_int (pa_cons pe_dnewK (pa_cons (pe_op op_cat (pv 1) (pe_slice sl_list (pv 1) (po_some (pe_un un_neg pe_int)) po_none)) (pa_cons (pe_op op_cat (pe_slice sl_list (pv 1) po_none (po_some pe_int)) (pv 1)) (pa_cons (pv 3) pa_nil))))))))))))))) pss_nil)
    (pss_cons (ps_if (pt_cmpR op_eq (pv 0) pe_int (nomark _)) (pss_one (ps_ret (pe_lst (pa_cons (pe_un un_neg pe_int) (pa_cons (pe_op op_sub (pe_un un_neg pe_int) (pv 2)) (pa_cons pe_bl (pa_cons pe_bl (pa_cons pe_non (pa_cons (pe_callTy call_str_int (by rfl) z_str (by decide +kernel) (pa_cons (pv 2) pa_nil)) (pa_cons (pe_lst (pa_cons (pv 2) pa_nil)) (pa_cons (pe_tup (pa_cons (pv 2) pa_nil)) (pa_cons (pv 1) (pa_cons (pv 3) pa_nil))))))))))))) pss_nil)
    (pss_cons (ps_if (pt_cmpR op_eq (pv 0) pe_int (nomark _)) (pss_one (ps_ret (pe_lst (pa_cons pe_non (pa_cons pe_str (pa_cons pe_int (pa_cons pe_bl (pa_cons (pe_lst (pa_cons (pv 3) pa_nil)) (pa_cons (pe_tup (pa_cons (pv 3) pa_nil)) (pa_cons (pv 1) (pa_cons (pe_ix ix_seq (pv 1) pe_int (fun _ _ => rfl)) (pa_cons (pe_make mk_Happening G_Happening_init (hr.mono (by decide)) (by exact rfl) g_Happening b_Happening_init .nil passL (pa_cons (pe_ix ix_seq (pv 1) pe_int (fun _ _ => rfl)) (pa_cons (pe_ix ix_seq (pv 1) pe_int (fun _ _ => rfl)) (pa_cons (pv 2) pa_nil)))) (pa_cons pe_dnewK pa_nil))))))))))))) pss_nil)
    (pss_cons (ps_set (i := 5) sc_law_odd.nd rfl (Or.inl rfl) (pe_lst (pa_cons (pe_lst pa_nil) (pa_cons (pe_lst (pa_cons (pv 3) pa_nil)) (pa_cons (pe_tup (pa_cons (pv 3) (pa_cons (pv 3) pa_nil))) (pa_cons (pv 3) (pa_cons pe_non (pa_cons pe_str (pa_cons pe_int (pa_cons pe_dnewK (pa_cons (pe_lst (pa_cons pe_non (pa_cons (pv 3) pa_nil))) (pa_cons (pe_lst (pa_cons (pv 3) (pa_cons pe_non pa_nil))) (pa_cons (pe_lst (pa_cons (pv 3) (pa_cons pe_str pa_nil))) (pa_cons (pe_lst (pa_cons (pv 3) (pa_cons (pv 3) (pa_cons pe_int pa_nil)))) pa_nil))))))))))))))
    (pss_one (ps_ret (pe_op op_cat (pv 5) (pe_lst (pa_cons (pe_lst (pa_cons (pv 3) (pa_cons (pe_lst (pa_cons (pv 3) (pa_cons (pv 3) pa_nil))) pa_nil))) (pa_cons (pe_lst (pa_cons (pv 3) (pa_cons (pe_ix ix_seq (pv 1) pe_int (fun _ _ => rfl)) (pa_cons (pv 3) pa_nil)))) (pa_cons (pe_lst (pa_cons (pv 3) (pa_cons (pe_make mk_Happening G_Happening_init (hr.mono (by decide)) (by exact rfl) g_Happening b_Happening_init .nil passL (pa_cons (pe_ix ix_seq (pv 1) pe_int (fun _ _ => rfl)) (pa_cons (pe_ix ix_seq (pv 1) pe_int (fun _ _ => rfl)) (pa_cons (pv 2) pa_nil)))) pa_nil))) pa_nil)))))))))))
theorem ok_law_odd (Z : Env K mg) : ∃ fd, FnOk P w K mg base CX0 5 (ga K "_law_odd") fd ["_law_at", "_law_names_here", "_law_weight", "_law_fit"] (sp_law_odd K) ∧ Binds K fd ["_law_at", "_law_names_here", "_law_weight", "_law_fit"] [] ∧ PySem.W.keepIn K (.ref (ga K "_law_odd")) = true := by
  obtain ⟨fd, F⟩ := Z.c.def_ 10 (d := d_law_odd) rfl
  exact ⟨fd, okA_law_odd Z F, F.bindsN fun _ _ _ _ _ _ us hl => match us, hl with | [_, _, _, _], _ => rfl, F.kp⟩
theorem sc_law_kinds : FnScope ["_law_fit", "_law_found"] ["_law_fit"] (defScope s_law_kinds) := ⟨rfl, rfl, rfl, by decide +kernel, rfl, by decide +kernel, by decide +kernel⟩
theorem okA_law_kinds (Z : Env K mg) {fd : FuncData} (F : FunD K d_law_kinds.name d_law_kinds.qual d_law_kinds.params d_law_kinds.body d_law_kinds.scope (d_law_kinds.dvs K) (d_law_kinds.kws K) (fAd K d_law_kinds.at_) fd) : FnOk P w K mg base CX0 1 (ga K "_law_kinds") fd ["_law_fit"] (sp_law_kinds K) := by
  have g_Any := Z.glo 22 (x := "Any") rfl
  have g_Both := Z.glo 23 (x := "Both") rfl
  have g_Either := Z.glo 24 (x := "Either") rfl
  have g_Kind := Z.glo 25 (x := "Kind") rfl
  have g_Least := Z.glo 26 (x := "Least") rfl
  have g_Not := Z.glo 27 (x := "Not") rfl
  have g_Place := Z.glo 28 (x := "Place") rfl
  have z_isinstance := Z.free 2 (x := "isinstance") rfl
  have hc : Hc K := Z.x 0 rfl
  have xc : Xc K := Z.x 1 rfl
  refine F.ok (CX := CX0) sc_law_kinds (fun vs H Q E h => len_law_kinds h) (fun cdv A outer s H vs Q E hr h => ⟨t_law_kinds K, PSs.nox ?_, run_law_kinds h (Z.x 0 rfl) (Z.x 1 rfl)⟩)
  exact (pss_cons (ps_set (i := 1) sc_law_kinds.nd rfl (Or.inl rfl) (pe_lst (pa_cons (pe_callB call_isi (by rfl) z_isinstance (by decide +kernel) (pa_cons (pv 0) (pa_cons (pe_glob rfl g_Any rfl) pa_nil))) (pa_cons (pe_callB call_isi (by rfl) z_isinstance (by decide +kernel) (pa_cons (pv 0) (pa_cons (pe_glob rfl g_Kind rfl) pa_nil))) (pa_cons (pe_callB call_isi (by rfl) z_isinstance (by decide +kernel) (pa_cons (pv 0) (pa_cons (pe_glob rfl g_Place rfl) pa_nil))) (pa_cons (pe_callB call_isi (by rfl) z_isinstance (by decide +kernel) (pa_cons (pv 0) (pa_cons (pe_glob rfl g_Least rfl) pa_nil))) pa_nil))))))
    (pss_one (ps_ret (pe_op op_cat (pv 1) (pe_lst (pa_cons (pe_callB call_isi (by rfl) z_isinstance (by decide +kernel) (pa_cons (pv 0) (pa_cons (pe_glob rfl g_Not rfl) pa_nil))) (pa_cons (pe_callB call_isi (by rfl) z_isinstance (by decide +kernel) (pa_cons (pv 0) (pa_cons (pe_glob rfl g_Both rfl) pa_nil))) (pa_cons (pe_callB call_isi (by rfl) z_isinstance (by decide +kernel) (pa_cons (pv 0) (pa_cons (pe_glob rfl g_Either rfl) pa_nil))) pa_nil))))))))
theorem ok_law_kinds (Z : Env K mg) : ∃ fd, FnOk P w K mg base CX0 1 (ga K "_law_kinds") fd ["_law_fit"] (sp_law_kinds K) ∧ Binds K fd ["_law_fit"] [] ∧ PySem.W.keepIn K (.ref (ga K "_law_kinds")) = true := by
  obtain ⟨fd, F⟩ := Z.c.def_ 11 (d := d_law_kinds) rfl
  exact ⟨fd, okA_law_kinds Z F, F.bindsN fun _ _ _ _ _ _ us hl => match us, hl with | [_], _ => rfl, F.kp⟩
theorem sc_law_is_kind : FnScope ["_law_fit", "_law_at", "_law_k"] ["_law_fit", "_law_at"] (defScope s_law_is_kind) := ⟨rfl, rfl, rfl, by decide +kernel, rfl, by decide +kernel, by decide +kernel⟩
theorem okA_law_is_kind (Z : Env K mg) {fd : FuncData} (F : FunD K d_law_is_kind.name d_law_is_kind.qual d_law_is_kind.params d_law_is_kind.body d_law_is_kind.scope (d_law_is_kind.dvs K) (d_law_is_kind.kws K) (fAd K d_law_is_kind.at_) fd) : FnOk P w K mg base CX0 2 (ga K "_law_is_kind") fd ["_law_fit", "_law_at"] (sp_law_is_kind K) := by
  obtain ⟨fd_law_kinds, G_law_kinds, b_law_kinds, k_law_kinds⟩ := ok_law_kinds (P := P) (w := w) (base := base) Z
  have g_Fit := Z.glo 7 (x := "Fit") rfl
  have g__law_kinds := Z.glo 29 (x := "_law_kinds") rfl
  have z_isinstance := Z.free 2 (x := "isinstance") rfl
  have z_range := Z.free 10 (x := "range") rfl
  have hc : Hc K := Z.x 0 rfl
  have xc : Xc K := Z.x 1 rfl
  refine F.ok (CX := CX0) sc_law_is_kind (fun vs H Q E h => len_law_is_kind h) (fun cdv A outer s H vs Q E hr h => ⟨t_law_is_kind K, PSs.nox ?_, run_law_is_kind h (Z.x 0 rfl) (Z.x 1 rfl)⟩)
  exact (pss_one (ps_ret (pe_and (pe_callB call_isi (by rfl) z_isinstance (by decide +kernel) (pa_cons (pv 0) (pa_cons (pe_glob rfl g_Fit rfl) pa_nil))) (pe_one (pe_cmpR (op_eqD hr.units) (pe_call G_law_kinds (hr.mono (by decide)) rfl g__law_kinds k_law_kinds b_law_kinds .nil pass0 (pa_cons (pv 0) pa_nil)) (pe_lc (own := [("_law_k", 2)]) (g := gName 2) (tt := tYes) rfl sc_law_is_kind.nd (pi_range1 rfl z_range (pa_cons pe_int pa_nil)) (blkOk_by (own := [("_law_k", 2)]) (N := ["_law_fit", "_law_at", "_law_k"]) (sc := defScope s_law_is_kind) (by decide +kernel)) (fun _ _ _ _ _ => pg_name (i := 2) sc_law_is_kind.nd rfl (Or.inl rfl)) (fun _ _ _ _ _ => pts_nil) (fun _ _ _ _ _ => (pe_cmpR op_eq (pv 2) (pv 1) (nomark _)))) (nomark _))))))
theorem ok_law_is_kind (Z : Env K mg) : ∃ fd, FnOk P w K mg base CX0 2 (ga K "_law_is_kind") fd ["_law_fit", "_law_at"] (sp_law_is_kind K) ∧ Binds K fd ["_law_fit", "_law_at"] [] ∧ PySem.W.keepIn K (.ref (ga K "_law_is_kind")) = true := by
  obtain ⟨fd, F⟩ := Z.c.def_ 12 (d := d_law_is_kind) rfl
  exact ⟨fd, okA_law_is_kind Z F, F.bindsN fun _ _ _ _ _ _ us hl => match us, hl with | [_, _], _ => rfl, F.kp⟩
theorem sc_Several_init : FnScope ["self", "fits", "fit"] ["self", "fits"] (defScope s_Several_init) := ⟨rfl, rfl, rfl, by decide +kernel, rfl, by decide +kernel, by decide +kernel⟩
theorem okA_Several_init (Z : Env K mg) {fd : FuncData} (F : FunD K d_Several_init.name d_Several_init.qual d_Several_init.params d_Several_init.body d_Several_init.scope (d_Several_init.dvs K) (d_Several_init.kws K) (fAd K d_Several_init.at_) fd) : FnOk P w K mg base (L2.CX P w) 1 (ma K (ga K "Several") "__init__") fd ["self", "fits"] (sp_Several_init K) := by
  have g_Fit := Z.glo 7 (x := "Fit") rfl
  have g_NoFit := Z.glo 4 (x := "NoFit") rfl
  have z_all := Z.free 12 (x := "all") rfl
  have z_isinstance := Z.free 2 (x := "isinstance") rfl
  have z_len := Z.free 9 (x := "len") rfl
  have z_list := Z.free 30 (x := "list") rfl
  have hc : Hc K := Z.x 0 rfl
  have xc : Xc K := Z.x 1 rfl
  have x_NoFit := exc_ok (Z.c.fact 6 (f := .exc "NoFit") rfl)
  refine F.ok (CX := (L2.CX P w)) sc_Several_init (fun vs H Q E h => len_Several_init h) (fun cdv A outer s H vs Q E hr h => ⟨t_Several_init K E, ?_, run_Several_init h (Z.x 0 rfl) (Z.x 1 rfl)⟩)
  exact (pss_cons (ps_if (PW.pt (pw_or (pt_not (pt_val (pe_callB call_isi (by rfl) z_isinstance (by decide +kernel) (pa_cons (pv 1) (pa_cons (pe_bltn (v := .ty "list") (by rfl) z_list (by decide +kernel) rfl) pa_nil))))) (pw_or (pt_cmpR op_lt (pe_callB call_len (by rfl) z_len (by decide +kernel) (pa_cons (pv 1) pa_nil)) pe_int (nomark _)) (pw_or1 (pt_not (pt_val (pe_callB (cr_all rfl) (by rfl) z_all (by decide +kernel) (pa_cons (pe_lc (own := [("fit", 2)]) (g := gName 2) (tt := tYes) rfl sc_Several_init.nd (pi_list (pv 1)) (blkOk_by (own := [("fit", 2)]) (N := ["self", "fits", "fit"]) (sc := defScope s_Several_init) (by decide +kernel)) (fun _ _ _ _ _ => pg_name (i := 2) sc_Several_init.nd rfl (Or.inl rfl)) (fun _ _ _ _ _ => pts_nil) (fun _ _ _ _ _ => (pe_callB call_isi (by rfl) z_isinstance (by decide +kernel) (pa_cons (pv 2) (pa_cons (pe_glob rfl g_Fit rfl) pa_nil))))) pa_nil)))))))) (pss_one (ps_raise rfl (takes_of rfl rfl rfl rfl) (pmk_own PySem.F.excBase_ValueError x_NoFit.1 g_NoFit x_NoFit.2.1 (raises_own x_NoFit.2.2.1 x_NoFit.2.2.2) (by exact rfl)))) pss_nil)
    (pss_one (ps_fld (pv 0) (pe_callTy call_list_of (by rfl) z_list (by decide +kernel) (pa_cons (pv 1) pa_nil)) rfl)))
theorem ok_Several_init (Z : Env K mg) : ∃ fd, FnOk P w K mg base (L2.CX P w) 1 (ma K (ga K "Several") "__init__") fd ["self", "fits"] (sp_Several_init K) ∧ Binds K fd ["self", "fits"] [] ∧ PySem.W.keepIn K (.ref (ma K (ga K "Several") "__init__")) = true := by
  obtain ⟨fd, F⟩ := Z.c.def_ 13 (d := d_Several_init) rfl
  exact ⟨fd, okA_Several_init Z F, F.bindsN fun _ _ _ _ _ _ us hl => match us, hl with | [_, _], _ => rfl, F.kp⟩
theorem sc_are_names : FnScope ["thing", "one"] ["thing"] (defScope s_are_names) := ⟨rfl, rfl, rfl, by decide +kernel, rfl, by decide +kernel, by decide +kernel⟩
theorem okA_are_names (Z : Env K mg) {fd : FuncData} (F : FunD K d_are_names.name d_are_names.qual d_are_names.params d_are_names.body d_are_names.scope (d_are_names.dvs K) (d_are_names.kws K) (fAd K d_are_names.at_) fd) : FnOk P w K mg base CX0 2 (ga K "are_names") fd ["thing"] (sp_are_names K) := by
  obtain ⟨fd_is_name, G_is_name, b_is_name, k_is_name⟩ := ok_is_name (P := P) (w := w) (base := base) Z
  have g_is_name := Z.glo 17 (x := "is_name") rfl
  have z_all := Z.free 12 (x := "all") rfl
  have z_isinstance := Z.free 2 (x := "isinstance") rfl
  have z_len := Z.free 9 (x := "len") rfl
  have z_list := Z.free 30 (x := "list") rfl
  have z_set := Z.free 31 (x := "set") rfl
  have hc : Hc K := Z.x 0 rfl
  have xc : Xc K := Z.x 1 rfl
  refine F.ok (CX := CX0) sc_are_names (fun vs H Q E h => len_are_names h) (fun cdv A outer s H vs Q E hr h => ⟨t_are_names K, PSs.nox ?_, run_are_names h (Z.x 0 rfl) (Z.x 1 rfl)⟩)
  exact (pss_cons (ps_if (PW.pt (pw_or (pt_not (pt_val (pe_callB call_isi (by rfl) z_isinstance (by decide +kernel) (pa_cons (pv 0) (pa_cons (pe_bltn (v := .ty "list") (by rfl) z_list (by decide +kernel) rfl) pa_nil))))) (pw_or1 (pt_not (pt_val (pe_callB (cr_all rfl) (by rfl) z_all (by decide +kernel) (pa_cons (pe_lc (own := [("one", 1)]) (g := gName 1) (tt := tYes) rfl sc_are_names.nd (pi_list (pv 0)) (blkOk_by (own := [("one", 1)]) (N := ["thing", "one"]) (sc := defScope s_are_names) (by decide +kernel)) (fun _ _ _ _ _ => pg_name (i := 1) sc_are_names.nd rfl (Or.inl rfl)) (fun _ _ _ _ _ => pts_nil) (fun _ _ _ _ _ => (pe_call G_is_name (hr.mono (by decide)) rfl g_is_name k_is_name b_is_name .nil pass0 (pa_cons (pv 1) pa_nil)))) pa_nil))))))) (pss_one (ps_ret pe_bl)) pss_nil)
    (pss_one (ps_ret (pe_cmpR op_eq (pe_lenSetG rfl (by rfl) z_len (by rfl) z_set (pv 0)) (pe_callB call_len (by rfl) z_len (by decide +kernel) (pa_cons (pv 0) pa_nil)) (nomark _)))))
theorem ok_are_names (Z : Env K mg) : ∃ fd, FnOk P w K mg base CX0 2 (ga K "are_names") fd ["thing"] (sp_are_names K) ∧ Binds K fd ["thing"] [] ∧ PySem.W.keepIn K (.ref (ga K "are_names")) = true := by
  obtain ⟨fd, F⟩ := Z.c.def_ 14 (d := d_are_names) rfl
  exact ⟨fd, okA_are_names Z F, F.bindsN fun _ _ _ _ _ _ us hl => match us, hl with | [_], _ => rfl, F.kp⟩
theorem sc_Named_init : FnScope ["self", "names"] ["self", "names"] (defScope s_Named_init) := ⟨rfl, rfl, rfl, by decide +kernel, rfl, by decide +kernel, by decide +kernel⟩
theorem okA_Named_init (Z : Env K mg) {fd : FuncData} (F : FunD K d_Named_init.name d_Named_init.qual d_Named_init.params d_Named_init.body d_Named_init.scope (d_Named_init.dvs K) (d_Named_init.kws K) (fAd K d_Named_init.at_) fd) : FnOk P w K mg base (L2.CX P w) 3 (ma K (ga K "Named") "__init__") fd ["self", "names"] (sp_Named_init K) := by
  obtain ⟨fd_are_names, G_are_names, b_are_names, k_are_names⟩ := ok_are_names (P := P) (w := w) (base := base) Z
  have g_NoFit := Z.glo 4 (x := "NoFit") rfl
  have g_are_names := Z.glo 32 (x := "are_names") rfl
  have z_list := Z.free 30 (x := "list") rfl
  have hc : Hc K := Z.x 0 rfl
  have xc : Xc K := Z.x 1 rfl
  have x_NoFit := exc_ok (Z.c.fact 6 (f := .exc "NoFit") rfl)
  refine F.ok (CX := (L2.CX P w)) sc_Named_init (fun vs H Q E h => len_Named_init h) (fun cdv A outer s H vs Q E hr h => ⟨t_Named_init K E, ?_, run_Named_init h (Z.x 0 rfl) (Z.x 1 rfl)⟩)
  exact (pss_cons (ps_if (PW.pt (pw_or (pt_not (pt_val (pe_call G_are_names (hr.mono (by decide)) rfl g_are_names k_are_names b_are_names .nil pass0 (pa_cons (pv 1) pa_nil)))) (pw_or1 (pt_cmpR (op_eqD hr.units) (pv 1) (pe_lst pa_nil) (nomark _))))) (pss_one (ps_raise rfl (takes_of rfl rfl rfl rfl) (pmk_own PySem.F.excBase_ValueError x_NoFit.1 g_NoFit x_NoFit.2.1 (raises_own x_NoFit.2.2.1 x_NoFit.2.2.2) (by exact rfl)))) pss_nil)
    (pss_one (ps_fld (pv 0) (pe_callTy call_list_of (by rfl) z_list (by decide +kernel) (pa_cons (pv 1) pa_nil)) rfl)))
theorem ok_Named_init (Z : Env K mg) : ∃ fd, FnOk P w K mg base (L2.CX P w) 3 (ma K (ga K "Named") "__init__") fd ["self", "names"] (sp_Named_init K) ∧ Binds K fd ["self", "names"] [] ∧ PySem.W.keepIn K (.ref (ma K (ga K "Named") "__init__")) = true := by
  obtain ⟨fd, F⟩ := Z.c.def_ 15 (d := d_Named_init) rfl
  exact ⟨fd, okA_Named_init Z F, F.bindsN fun _ _ _ _ _ _ us hl => match us, hl with | [_, _], _ => rfl, F.kp⟩
theorem sc_law_made : FnScope ["_law_at", "_law_thing"] ["_law_at", "_law_thing"] (defScope s_law_made) := ⟨rfl, rfl, rfl, by decide +kernel, rfl, by decide +kernel, by decide +kernel⟩
theorem okA_law_made (Z : Env K mg) {fd : FuncData} (F : FunD K d_law_made.name d_law_made.qual d_law_made.params d_law_made.body d_law_made.scope (d_law_made.dvs K) (d_law_made.kws K) (fAd K d_law_made.at_) fd) : FnOk P w K mg base (L2.CX P w) 5 (ga K "_law_made") fd ["_law_at", "_law_thing"] (sp_law_made K) := by
  obtain ⟨fd_Least_init, G_Least_init, b_Least_init, k_Least_init⟩ := ok_Least_init (P := P) (w := w) (base := base) Z
  obtain ⟨fd_Named_init, G_Named_init, b_Named_init, k_Named_init⟩ := ok_Named_init (P := P) (w := w) (base := base) Z
  obtain ⟨fd_Not_init, G_Not_init, b_Not_init, k_Not_init⟩ := ok_Not_init (P := P) (w := w) (base := base) Z
  obtain ⟨fd_Several_init, G_Several_init, b_Several_init, k_Several_init⟩ := ok_Several_init (P := P) (w := w) (base := base) Z
  have g_Both := Z.glo 23 (x := "Both") rfl
  have g_Either := Z.glo 24 (x := "Either") rfl
  have g_Kind := Z.glo 25 (x := "Kind") rfl
  have g_Least := Z.glo 26 (x := "Least") rfl
  have g_Not := Z.glo 27 (x := "Not") rfl
  have g_Place := Z.glo 28 (x := "Place") rfl
  have hc : Hc K := Z.x 0 rfl
  have xc : Xc K := Z.x 1 rfl
  have mk_Both := mkB_ok (Z.x 2 (f := fun K => mkB K (ga K "Both") (ma K (ga K "Several") "__init__")) rfl)
  have mk_Either := mkB_ok (Z.x 3 (f := fun K => mkB K (ga K "Either") (ma K (ga K "Several") "__init__")) rfl)
  have mk_Kind := mkB_ok (Z.x 4 (f := fun K => mkB K (ga K "Kind") (ma K (ga K "Named") "__init__")) rfl)
  have mk_Least := mkr_ok (Z.c.fact 33 (f := .mkr "Least") rfl)
  have mk_Not := mkr_ok (Z.c.fact 34 (f := .mkr "Not") rfl)
  have mk_Place := mkB_ok (Z.x 5 (f := fun K => mkB K (ga K "Place") (ma K (ga K "Named") "__init__")) rfl)
  refine F.ok (CX := (L2.CX P w)) sc_law_made (fun vs H Q E h => len_law_made h) (fun cdv A outer s H vs Q E hr h => ⟨t_law_made K E, ?_, run_law_made h (Z.x 0 rfl) (Z.x 1 rfl)⟩)
  exact (pss_cons (ps_if (pt_cmpR op_eq (pv 0) pe_int (nomark _)) (pss_one (ps_ret (pe_make mk_Kind G_Named_init (hr.mono (by decide)) (by exact rfl) g_Kind b_Named_init .nil (passes_call (takes_of rfl rfl rfl rfl) (fun _ _ _ _ h => h)) (pa_cons (pv 1) pa_nil)))) pss_nil)
    (pss_cons (ps_if (pt_cmpR op_eq (pv 0) pe_int (nomark _)) (pss_one (ps_ret (pe_make mk_Place G_Named_init (hr.mono (by decide)) (by exact rfl) g_Place b_Named_init .nil (passes_call (takes_of rfl rfl rfl rfl) (fun _ _ _ _ h => h)) (pa_cons (pv 1) pa_nil)))) pss_nil)
    (pss_cons (ps_if (pt_cmpR op_eq (pv 0) pe_int (nomark _)) (pss_one (ps_ret (pe_make mk_Least G_Least_init (hr.mono (by decide)) (by exact rfl) g_Least b_Least_init .nil (passes_call (takes_of rfl rfl rfl rfl) (fun _ _ _ _ h => h)) (pa_cons (pv 1) pa_nil)))) pss_nil)
    (pss_cons (ps_if (pt_cmpR op_eq (pv 0) pe_int (nomark _)) (pss_one (ps_ret (pe_make mk_Not G_Not_init (hr.mono (by decide)) (by exact rfl) g_Not b_Not_init .nil (passes_call (takes_of rfl rfl rfl rfl) (fun _ _ _ _ h => h)) (pa_cons (pv 1) pa_nil)))) pss_nil)
    (pss_cons (ps_if (pt_cmpR op_eq (pv 0) pe_int (nomark _)) (pss_one (ps_ret (pe_make mk_Both G_Several_init (hr.mono (by decide)) (by exact rfl) g_Both b_Several_init .nil (passes_call (takes_of rfl rfl rfl rfl) (fun _ _ _ _ h => h)) (pa_cons (pv 1) pa_nil)))) pss_nil)
    (pss_one (ps_ret (pe_make mk_Either G_Several_init (hr.mono (by decide)) (by exact rfl) g_Either b_Several_init .nil (passes_call (takes_of rfl rfl rfl rfl) (fun _ _ _ _ h => h)) (pa_cons (pv 1) pa_nil)))))))))
theorem ok_law_made (Z : Env K mg) : ∃ fd, FnOk P w K mg base (L2.CX P w) 5 (ga K "_law_made") fd ["_law_at", "_law_thing"] (sp_law_made K) ∧ Binds K fd ["_law_at", "_law_thing"] [] ∧ PySem.W.keepIn K (.ref (ga K "_law_made")) = true := by
  obtain ⟨fd, F⟩ := Z.c.def_ 16 (d := d_law_made) rfl
  exact ⟨fd, okA_law_made Z F, F.bindsN fun _ _ _ _ _ _ us hl => match us, hl with | [_, _], _ => rfl, F.kp⟩
theorem sc_law_named : FnScope ["_law_at", "_law_names_here", "_law_handed", "_law_fit"] ["_law_at", "_law_names_here"] (defScope s_law_named) := ⟨rfl, rfl, rfl, by decide +kernel, rfl, by decide +kernel, by decide +kernel⟩
theorem okA_law_named (Z : Env K mg) {fd : FuncData} (F : FunD K d_law_named.name d_law_named.qual d_law_named.params d_law_named.body d_law_named.scope (d_law_named.dvs K) (d_law_named.kws K) (fAd K d_law_named.at_) fd) : FnOk P w K mg base CX0 6 (ga K "_law_named") fd ["_law_at", "_law_names_here"] (sp_law_named K) := by
  obtain ⟨fd_law_is_kind, G_law_is_kind, b_law_is_kind, k_law_is_kind⟩ := ok_law_is_kind (P := P) (w := w) (base := base) Z
  obtain ⟨fd_law_made, G_law_made, b_law_made, k_law_made⟩ := ok_law_made (P := P) (w := w) (base := base) Z
  have g__law_is_kind := Z.glo 35 (x := "_law_is_kind") rfl
  have g__law_made := Z.glo 36 (x := "_law_made") rfl
  have z_isinstance := Z.free 2 (x := "isinstance") rfl
  have z_list := Z.free 30 (x := "list") rfl
  have hc : Hc K := Z.x 0 rfl
  have xc : Xc K := Z.x 1 rfl
  refine F.ok (CX := CX0) sc_law_named (fun vs H Q E h => len_law_named h) (fun cdv A outer s H vs Q E hr h => ⟨t_law_named K, PSs.nox ?_, run_law_named h (Z.x 0 rfl) (Z.x 1 rfl)⟩)
  exact (pss_cons (ps_set (i := 2) sc_law_named.nd rfl (Or.inl rfl) (pe_callTy call_list_of (by rfl) z_list (by decide +kernel) (pa_cons (pv 1) pa_nil)))
    (pss_cons (ps_set (i := 3) sc_law_named.nd rfl (Or.inl rfl) (pe_call G_law_made (hr.mono (by decide)) rfl g__law_made k_law_made b_law_made .nil passL (pa_cons (pv 0) (pa_cons (pv 2) pa_nil))))
    (pss_cons (ps_if (PW.pt (pw_or (pt_cmpR (op_neD hr.units) (pv 2) (pv 1) (nomark _)) (pw_or (pt_not (pt_val (pe_call G_law_is_kind (hr.mono (by decide)) rfl g__law_is_kind k_law_is_kind b_law_is_kind .nil pass0 (pa_cons (pv 3) (pa_cons (pv 0) pa_nil))))) (pw_or (pt_not (pt_val (pe_callB call_isi (by rfl) z_isinstance (by decide +kernel) (pa_cons (pe_fld (pv 3) rfl) (pa_cons (pe_bltn (v := .ty "list") (by rfl) z_list (by decide +kernel) rfl) pa_nil))))) (pw_or1 (pt_cmpR (op_neD hr.units) (pe_fld (pv 3) rfl) (pv 1) (nomark _))))))) (pss_one (ps_ret pe_bl)) pss_nil)
    (pss_cons (ps_expr (pe_bm PySem.F.plainAttrs_list PySem.F.slot_list_append PySem.F.type_list_append mt_append (pv 2) (pa_cons pe_str pa_nil)))
    (pss_cons (ps_asg pe_str (pg_sub (pv 2) pe_int set_list))
    (pss_one (ps_ret (pe_cmpR (op_eqD hr.units) (pe_fld (pv 3) rfl) (pv 1) (nomark _)))))))))
theorem ok_law_named (Z : Env K mg) : ∃ fd, FnOk P w K mg base CX0 6 (ga K "_law_named") fd ["_law_at", "_law_names_here"] (sp_law_named K) ∧ Binds K fd ["_law_at", "_law_names_here"] [] ∧ PySem.W.keepIn K (.ref (ga K "_law_named")) = true := by
  obtain ⟨fd, F⟩ := Z.c.def_ 17 (d := d_law_named) rfl
  exact ⟨fd, okA_law_named Z F, F.bindsN fun _ _ _ _ _ _ us hl => match us, hl with | [_, _], _ => rfl, F.kp⟩
theorem sc_law_several : FnScope ["_law_at", "_law_weights", "_law_handed", "_law_fit", "_law_found", "_law_weight", "_law_one"] ["_law_at", "_law_weights"] (defScope s_law_several) := ⟨rfl, rfl, rfl, by decide +kernel, rfl, by decide +kernel, by decide +kernel⟩
theorem okA_law_several (Z : Env K mg) {fd : FuncData} (F : FunD K d_law_several.name d_law_several.qual d_law_several.params d_law_several.body d_law_several.scope (d_law_several.dvs K) (d_law_several.kws K) (fAd K d_law_several.at_) fd) : FnOk P w K mg base CX0 6 (ga K "_law_several") fd ["_law_at", "_law_weights"] (sp_law_several K) := by
  obtain ⟨fd_Least_init, G_Least_init, b_Least_init, k_Least_init⟩ := ok_Least_init (P := P) (w := w) (base := base) Z
  obtain ⟨fd_law_is_kind, G_law_is_kind, b_law_is_kind, k_law_is_kind⟩ := ok_law_is_kind (P := P) (w := w) (base := base) Z
  obtain ⟨fd_law_made, G_law_made, b_law_made, k_law_made⟩ := ok_law_made (P := P) (w := w) (base := base) Z
  have g_Any := Z.glo 22 (x := "Any") rfl
  have g_Least := Z.glo 26 (x := "Least") rfl
  have g__law_is_kind := Z.glo 35 (x := "_law_is_kind") rfl
  have g__law_made := Z.glo 36 (x := "_law_made") rfl
  have z_isinstance := Z.free 2 (x := "isinstance") rfl
  have z_len := Z.free 9 (x := "len") rfl
  have z_list := Z.free 30 (x := "list") rfl
  have hc : Hc K := Z.x 0 rfl
  have xc : Xc K := Z.x 1 rfl
  have m0_Any := mk0B_ok (Z.x 6 (f := fun K => mk0B K (ga K "Any")) rfl)
  have mk_Least := mkr_ok (Z.c.fact 33 (f := .mkr "Least") rfl)
  refine F.ok (CX := CX0) sc_law_several (fun vs H Q E h => len_law_several h) (fun cdv A outer s H vs Q E hr h => ⟨t_law_several K, PSs.nox ?_, run_law_several h (Z.x 0 rfl) (Z.x 1 rfl)⟩)
  exact (pss_cons (ps_setLc (i := 2) (own := [("_law_weight", 5)]) (g := gName 5) (tt := tYes) rfl sc_law_several.nd rfl rfl (sw_true rfl rfl rfl (by decide +kernel)) (pi_list (pv 1)) (blkOk_by (own := [("_law_weight", 5)]) (N := ["_law_at", "_law_weights", "_law_handed", "_law_fit", "_law_found", "_law_weight", "_law_one"]) (sc := defScope s_law_several) (by decide +kernel)) (fun _ _ _ _ _ => pg_name (i := 5) sc_law_several.nd rfl (Or.inl rfl)) (fun _ _ _ _ _ => pts_nil) (fun _ _ _ _ _ => (pe_make mk_Least G_Least_init (hr.mono (by decide)) (by exact rfl) g_Least b_Least_init .nil passL (pa_cons (pv 5) pa_nil))))
    (pss_cons (ps_set (i := 3) sc_law_several.nd rfl (Or.inl rfl) (pe_call G_law_made (hr.mono (by decide)) rfl g__law_made k_law_made b_law_made .nil passL (pa_cons (pv 0) (pa_cons (pv 2) pa_nil))))
    (pss_cons (ps_if (PW.pt (pw_or (pt_cmpR op_ne (pe_callB call_len (by rfl) z_len (by decide +kernel) (pa_cons (pv 2) pa_nil)) (pe_callB call_len (by rfl) z_len (by decide +kernel) (pa_cons (pv 1) pa_nil)) (nomark _)) (pw_or (pt_not (pt_val (pe_call G_law_is_kind (hr.mono (by decide)) rfl g__law_is_kind k_law_is_kind b_law_is_kind .nil pass0 (pa_cons (pv 3) (pa_cons (pv 0) pa_nil))))) (pw_or1 (pt_not (pt_val (pe_callB call_isi (by rfl) z_isinstance (by decide +kernel) (pa_cons (pe_fld (pv 3) rfl) (pa_cons (pe_bltn (v := .ty "list") (by rfl) z_list (by decide +kernel) rfl) pa_nil))))))))) (pss_one (ps_ret pe_bl)) pss_nil)
    (pss_cons (ps_expr (pe_bm PySem.F.plainAttrs_list PySem.F.slot_list_append PySem.F.type_list_append mt_append (pv 2) (pa_cons (pe_make00 m0_Any (by exact rfl) g_Any) pa_nil)))
    (pss_cons (ps_asg (pe_make00 m0_Any (by exact rfl) g_Any) (pg_sub (pv 2) pe_int set_list))
    (pss_cons (ps_setLc (i := 4) (own := [("_law_one", 6)]) (g := gName 6) (tt := (tB (tCB (rIsi K) (tCons (tVar 6) (tCons (tC (.ref (ga K "Least"))) tNil))))) rfl sc_law_several.nd rfl rfl (sw_true rfl rfl rfl (by decide +kernel)) (pi_list (pe_fld (pv 3) rfl)) (blkOk_by (own := [("_law_one", 6)]) (N := ["_law_at", "_law_weights", "_law_handed", "_law_fit", "_law_found", "_law_weight", "_law_one"]) (sc := defScope s_law_several) (by decide +kernel)) (fun _ _ _ _ _ => pg_name (i := 6) sc_law_several.nd rfl (Or.inl rfl)) (fun _ _ _ _ _ => (pts_one (pt_val (pe_callB call_isi (by rfl) z_isinstance (by decide +kernel) (pa_cons (pv 6) (pa_cons (pe_glob rfl g_Least rfl) pa_nil)))))) (fun _ _ _ _ _ => (pv 6)))
    (pss_one (ps_ret (pe_and (pe_cmpR op_eq (pe_callB call_len (by rfl) z_len (by decide +kernel) (pa_cons (pe_fld (pv 3) rfl) pa_nil)) (pe_callB call_len (by rfl) z_len (by decide +kernel) (pa_cons (pv 1) pa_nil)) (nomark _)) (pe_one (pe_cmpR (op_eqD hr.units) (pe_lc (own := [("_law_one", 6)]) (g := gName 6) (tt := tYes) rfl sc_law_several.nd (pi_list (pv 4)) (blkOk_by (own := [("_law_one", 6)]) (N := ["_law_at", "_law_weights", "_law_handed", "_law_fit", "_law_found", "_law_weight", "_law_one"]) (sc := defScope s_law_several) (by decide +kernel)) (fun _ _ _ _ _ => pg_name (i := 6) sc_law_several.nd rfl (Or.inl rfl)) (fun _ _ _ _ _ => pts_nil) (fun _ _ _ _ _ => (pe_fld (pv 6) rfl))) (pv 1) (nomark _))))))))))))
theorem ok_law_several (Z : Env K mg) : ∃ fd, FnOk P w K mg base CX0 6 (ga K "_law_several") fd ["_law_at", "_law_weights"] (sp_law_several K) ∧ Binds K fd ["_law_at", "_law_weights"] [] ∧ PySem.W.keepIn K (.ref (ga K "_law_several")) = true := by
  obtain ⟨fd, F⟩ := Z.c.def_ 18 (d := d_law_several) rfl
  exact ⟨fd, okA_law_several Z F, F.bindsN fun _ _ _ _ _ _ us hl => match us, hl with | [_, _], _ => rfl, F.kp⟩
theorem sc_law_refused : FnScope ["_law_at", "_law_thing", "_law_found", "e", "_law_other"] ["_law_at", "_law_thing"] (defScope s_law_refused) := ⟨rfl, rfl, rfl, by decide +kernel, rfl, by decide +kernel, by decide +kernel⟩
theorem okA_law_refused (Z : Env K mg) {fd : FuncData} (F : FunD K d_law_refused.name d_law_refused.qual d_law_refused.params d_law_refused.body d_law_refused.scope (d_law_refused.dvs K) (d_law_refused.kws K) (fAd K d_law_refused.at_) fd) : FnOk P w K mg base CX0 6 (ga K "_law_refused") fd ["_law_at", "_law_thing"] (sp_law_refused K) := by
  obtain ⟨fd_law_made, G_law_made, b_law_made, k_law_made⟩ := ok_law_made (P := P) (w := w) (base := base) Z
  have g_BellError := Z.glo 37 (x := "BellError") rfl
  have g_NoClock := Z.glo 38 (x := "NoClock") rfl
  have g_NoFit := Z.glo 4 (x := "NoFit") rfl
  have g_NoHappening := Z.glo 16 (x := "NoHappening") rfl
  have g_NoRow := Z.glo 39 (x := "NoRow") rfl
  have g_NoText := Z.glo 40 (x := "NoText") rfl
  have g_NoWish := Z.glo 41 (x := "NoWish") rfl
  have g__law_made := Z.glo 36 (x := "_law_made") rfl
  have z_ValueError := Z.free 42 (x := "ValueError") rfl
  have z_isinstance := Z.free 2 (x := "isinstance") rfl
  have hc : Hc K := Z.x 0 rfl
  have xc : Xc K := Z.x 1 rfl
  refine F.ok (CX := CX0) sc_law_refused (fun vs H Q E h => len_law_refused h) (fun cdv A outer s H vs Q E hr h => ⟨t_law_refused K, PSs.nox ?_, run_law_refused h (Z.x 0 rfl) (Z.x 1 rfl)⟩)
  exact (pss_cons (ps_set (i := 2) sc_law_refused.nd rfl (Or.inl rfl) pe_bl)
    (pss_cons (ps_try_as (i := 3) rfl rfl sc_law_refused.nd rfl rfl ⟨by exact rfl, by decide, .inl g_BellError⟩ takes0 (fun W pn xe tk _ => (pss_one (ps_expr (pe_callS G_law_made (hr.mono (by decide)) (by exact rfl) g__law_made k_law_made b_law_made (fun σ => passAt tk σ) (pa_cons (pv 0) (pa_cons (pv 1) pa_nil))))))
    (fun a oe cls d pn hz hf => (pss_cons (ps_set (i := 4) sc_law_refused.nd rfl (Or.inl rfl) (pe_callB (call_isYT hz hf) (by rfl) z_isinstance (by decide +kernel) (pa_cons (pv 3) (pa_cons (pe_tup (pa_cons (pe_glob rfl g_NoClock rfl) (pa_cons (pe_glob rfl g_NoHappening rfl) (pa_cons (pe_glob rfl g_NoRow rfl) (pa_cons (pe_glob rfl g_NoText rfl) (pa_cons (pe_glob rfl g_NoWish rfl) pa_nil)))))) pa_nil))))
    (pss_one (ps_set (i := 2) sc_law_refused.nd rfl (Or.inl rfl) (pe_and (pe_callB (call_isY hz hf) (by rfl) z_isinstance (by decide +kernel) (pa_cons (pv 3) (pa_cons (pe_glob rfl g_NoFit rfl) pa_nil))) (pe_and (pe_callB (call_isY hz hf) (by rfl) z_isinstance (by decide +kernel) (pa_cons (pv 3) (pa_cons (pe_bltn (v := .ty "ValueError") (by rfl) z_ValueError (by decide +kernel) rfl) pa_nil))) (pe_one (pe_not (pv 4))))))))))
    (pss_one (ps_ret (pv 2)))))
theorem ok_law_refused (Z : Env K mg) : ∃ fd, FnOk P w K mg base CX0 6 (ga K "_law_refused") fd ["_law_at", "_law_thing"] (sp_law_refused K) ∧ Binds K fd ["_law_at", "_law_thing"] [] ∧ PySem.W.keepIn K (.ref (ga K "_law_refused")) = true := by
  obtain ⟨fd, F⟩ := Z.c.def_ 19 (d := d_law_refused) rfl
  exact ⟨fd, okA_law_refused Z F, F.bindsN fun _ _ _ _ _ _ us hl => match us, hl with | [_, _], _ => rfl, F.kp⟩
theorem sc_law : FnScope ["_law_script", "_law_cell", "_law_state", "_law_names_here", "_law_weight", "_law_least", "_law_turned", "_law_weights", "_law_at", "_law_odd_here", "_law_k"] ["_law_script"] (defScope s_law) := ⟨rfl, rfl, rfl, by decide +kernel, rfl, by decide +kernel, by decide +kernel⟩
theorem okA_law (Z : Env K mg) {fd : FuncData} (F : FunD K d_law.name d_law.qual d_law.params d_law.body d_law.scope (d_law.dvs K) (d_law.kws K) (fAd K d_law.at_) fd) : FnOk P w K mg base CX0 7 (ga K "law") fd ["_law_script"] (sp_law K) := by
  obtain ⟨fd_Least_init, G_Least_init, b_Least_init, k_Least_init⟩ := ok_Least_init (P := P) (w := w) (base := base) Z
  obtain ⟨fd_Not_init, G_Not_init, b_Not_init, k_Not_init⟩ := ok_Not_init (P := P) (w := w) (base := base) Z
  obtain ⟨fd_law_begin, G_law_begin, b_law_begin, k_law_begin⟩ := ok_law_begin (P := P) (w := w) (base := base) Z
  obtain ⟨fd_law_is_kind, G_law_is_kind, b_law_is_kind, k_law_is_kind⟩ := ok_law_is_kind (P := P) (w := w) (base := base) Z
  obtain ⟨fd_law_named, G_law_named, b_law_named, k_law_named⟩ := ok_law_named (P := P) (w := w) (base := base) Z
  obtain ⟨fd_law_names, G_law_names, b_law_names, k_law_names⟩ := ok_law_names (P := P) (w := w) (base := base) Z
  obtain ⟨fd_law_next, G_law_next, b_law_next, k_law_next⟩ := ok_law_next (P := P) (w := w) (base := base) Z
  obtain ⟨fd_law_odd, G_law_odd, b_law_odd, k_law_odd⟩ := ok_law_odd (P := P) (w := w) (base := base) Z
  obtain ⟨fd_law_refused, G_law_refused, b_law_refused, k_law_refused⟩ := ok_law_refused (P := P) (w := w) (base := base) Z
  obtain ⟨fd_law_several, G_law_several, b_law_several, k_law_several⟩ := ok_law_several (P := P) (w := w) (base := base) Z
  have g_Any := Z.glo 22 (x := "Any") rfl
  have g_Least := Z.glo 26 (x := "Least") rfl
  have g_Not := Z.glo 27 (x := "Not") rfl
  have g__law_begin := Z.glo 43 (x := "_law_begin") rfl
  have g__law_is_kind := Z.glo 35 (x := "_law_is_kind") rfl
  have g__law_named := Z.glo 44 (x := "_law_named") rfl
  have g__law_names := Z.glo 45 (x := "_law_names") rfl
  have g__law_next := Z.glo 8 (x := "_law_next") rfl
  have g__law_odd := Z.glo 46 (x := "_law_odd") rfl
  have g__law_refused := Z.glo 47 (x := "_law_refused") rfl
  have g__law_several := Z.glo 48 (x := "_law_several") rfl
  have z_len := Z.free 9 (x := "len") rfl
  have z_range := Z.free 10 (x := "range") rfl
  have hc : Hc K := Z.x 0 rfl
  have xc : Xc K := Z.x 1 rfl
  have m0_Any := mk0B_ok (Z.x 6 (f := fun K => mk0B K (ga K "Any")) rfl)
  have mk_Least := mkr_ok (Z.c.fact 33 (f := .mkr "Least") rfl)
  have mk_Not := mkr_ok (Z.c.fact 34 (f := .mkr "Not") rfl)
  refine F.ok (CX := CX0) sc_law (fun vs H Q E h => len_law h) (fun cdv A outer s H vs Q E hr h => ⟨t_law K, PSs.nox ?_, run_law h (Z.x 0 rfl) (Z.x 1 rfl)⟩)
  exact (pss_cons (ps_for PassesOwn.never rfl (pi_list (pe_op op_cat (pe_lst (pa_cons pe_int pa_nil)) (pe_slice sl_list (pv 0) po_none (po_some pe_int)))) (pg_name (i := 1) sc_law.nd rfl (Or.inl rfl))
    (pss_cons (ps_set (i := 2) sc_law.nd rfl (Or.inr rfl) (pe_call G_law_begin (hr.mono (by decide)) rfl g__law_begin k_law_begin b_law_begin .nil pass0 (pa_cons (pv 1) pa_nil)))
    (pss_cons (ps_set (i := 3) sc_law.nd rfl (Or.inl rfl) (pe_call G_law_names (hr.mono (by decide)) rfl g__law_names k_law_names b_law_names .nil pass0 (pa_cons (pv 2) (pa_cons pe_int pa_nil))))
    (pss_cons (ps_set (i := 4) sc_law.nd rfl (Or.inl rfl) (pe_call G_law_next (hr.mono (by decide)) rfl g__law_next k_law_next b_law_next .nil pass0 (pa_cons (pv 2) (pa_cons (pe_pow2 (r := 1000000) (by decide) ⟨by decide, by decide, by decide⟩) pa_nil))))
    (pss_cons (ps_set (i := 5) sc_law.nd rfl (Or.inl rfl) (pe_make mk_Least G_Least_init (hr.mono (by decide)) (by exact rfl) g_Least b_Least_init .nil passL (pa_cons (pv 4) pa_nil)))
    (pss_cons (ps_if (PW.pt (pw_or (pt_not (pt_val (pe_call G_law_is_kind (hr.mono (by decide)) rfl g__law_is_kind k_law_is_kind b_law_is_kind .nil pass0 (pa_cons (pe_make00 m0_Any (by exact rfl) g_Any) (pa_cons pe_int pa_nil))))) (pw_or (pt_not (pt_val (pe_call G_law_is_kind (hr.mono (by decide)) rfl g__law_is_kind k_law_is_kind b_law_is_kind .nil pass0 (pa_cons (pv 5) (pa_cons pe_int pa_nil))))) (pw_or1 (pt_cmpR op_ne (pe_fld (pv 5) rfl) (pv 4) (nomark _)))))) (pss_one (ps_ret pe_bl)) pss_nil)
    (pss_cons (ps_if (PW.pt (pw_or (pt_not (pt_val (pe_call G_law_named (hr.mono (by decide)) rfl g__law_named k_law_named b_law_named .nil pass0 (pa_cons pe_int (pa_cons (pv 3) pa_nil))))) (pw_or1 (pt_not (pt_val (pe_call G_law_named (hr.mono (by decide)) rfl g__law_named k_law_named b_law_named .nil pass0 (pa_cons pe_int (pa_cons (pv 3) pa_nil)))))))) (pss_one (ps_ret pe_bl)) pss_nil)
    (pss_cons (ps_set (i := 6) sc_law.nd rfl (Or.inl rfl) (pe_make mk_Not G_Not_init (hr.mono (by decide)) (by exact rfl) g_Not b_Not_init .nil passL (pa_cons (pv 5) pa_nil)))
    (pss_cons (ps_if (PW.pt (pw_or (pt_not (pt_val (pe_call G_law_is_kind (hr.mono (by decide)) rfl g__law_is_kind k_law_is_kind b_law_is_kind .nil pass0 (pa_cons (pv 6) (pa_cons pe_int pa_nil))))) (pw_or (pt_not (pt_val (pe_call G_law_is_kind (hr.mono (by decide)) rfl g__law_is_kind k_law_is_kind b_law_is_kind .nil pass0 (pa_cons (pe_fld (pv 6) rfl) (pa_cons pe_int pa_nil))))) (pw_or1 (pt_cmpR op_ne (pe_fld (pe_fld (pv 6) rfl) rfl) (pv 4) (nomark _)))))) (pss_one (ps_ret pe_bl)) pss_nil)
    (pss_cons (ps_setLc (i := 7) (own := [("_law_k", 10)]) (g := gName 10) (tt := tYes) rfl sc_law.nd rfl rfl (sw_true rfl rfl rfl (by decide +kernel)) (pi_range1 rfl z_range (pa_cons (pe_op op_add pe_int (pe_call G_law_next (hr.mono (by decide)) rfl g__law_next k_law_next b_law_next .nil pass0 (pa_cons (pv 2) (pa_cons pe_int pa_nil)))) pa_nil)) (blkOk_by (own := [("_law_k", 10)]) (N := ["_law_script", "_law_cell", "_law_state", "_law_names_here", "_law_weight", "_law_least", "_law_turned", "_law_weights", "_law_at", "_law_odd_here", "_law_k"]) (sc := defScope s_law) (by decide +kernel)) (fun _ _ _ _ _ => pg_name (i := 10) sc_law.nd rfl (Or.inl rfl)) (fun _ _ _ _ _ => pts_nil) (fun _ _ _ _ _ => (pe_call G_law_next (hr.mono (by decide)) rfl g__law_next k_law_next b_law_next .nil pass0 (pa_cons (pv 2) (pa_cons (pe_pow2 (r := 1000000) (by decide) ⟨by decide, by decide, by decide⟩) pa_nil)))))
    (pss_cons (ps_if (PW.pt (pw_or (pt_not (pt_val (pe_call G_law_several (hr.mono (by decide)) rfl g__law_several k_law_several b_law_several .nil pass0 (pa_cons pe_int (pa_cons (pv 7) pa_nil))))) (pw_or1 (pt_not (pt_val (pe_call G_law_several (hr.mono (by decide)) rfl g__law_several k_law_several b_law_several .nil pass0 (pa_cons pe_int (pa_cons (pv 7) pa_nil)))))))) (pss_one (ps_ret pe_bl)) pss_nil)
    (pss_one (ps_for PassesOwn.never rfl (pi_range2 rfl z_range (pa_cons pe_int (pa_cons pe_int pa_nil))) (pg_name (i := 8) sc_law.nd rfl (Or.inl rfl))
    (pss_cons (ps_set (i := 9) sc_law.nd rfl (Or.inl rfl) (pe_call G_law_odd (hr.mono (by decide)) rfl g__law_odd k_law_odd b_law_odd .nil pass0 (pa_cons (pv 8) (pa_cons (pv 3) (pa_cons (pv 4) (pa_cons (pv 6) pa_nil))))))
    (pss_one (ps_for PassesOwn.never rfl (pi_range1 rfl z_range (pa_cons pe_int pa_nil)) (pg_name (i := 10) sc_law.nd rfl (Or.inl rfl))
    (pss_one (ps_if (pt_not (pt_val (pe_call G_law_refused (hr.mono (by decide)) rfl g__law_refused k_law_refused b_law_refused .nil pass0 (pa_cons (pv 8) (pa_cons (pe_ix ix_seq (pv 9) (pe_call G_law_next (hr.mono (by decide)) rfl g__law_next k_law_next b_law_next .nil pass0 (pa_cons (pv 2) (pa_cons (pe_callB call_len (by rfl) z_len (by decide +kernel) (pa_cons (pv 9) pa_nil)) pa_nil))) (fun _ _ => rfl)) pa_nil))))) (pss_one (ps_ret pe_bl)) pss_nil))))))))))))))))))
    (pss_one (ps_ret pe_bl)))
theorem ok_law (Z : Env K mg) : ∃ fd, FnOk P w K mg base CX0 7 (ga K "law") fd ["_law_script"] (sp_law K) ∧ Binds K fd ["_law_script"] [] ∧ PySem.W.keepIn K (.ref (ga K "law")) = true := by
  obtain ⟨fd, F⟩ := Z.c.def_ 20 (d := d_law) rfl
  exact ⟨fd, okA_law Z F, F.bindsN fun _ _ _ _ _ _ us hl => match us, hl with | [_], _ => rfl, F.kp⟩
end
/-! ### the head -/
abbrev R : PySem.W.OpenRow := PySem.W.OpenLaw.row PySem.Challenge.rw_bellsaway_k07_fits_made
abbrev hk : PySem.W.Hook := hookM 5
def ob (s : PySem.W.SharedT) : AlM := obsM 5 (HandSHeadRun.getT s)
theorem ob_eq (s : PySem.W.SharedT) : ob s = hk.obs s.abs := by
  have e : HandSHeadRun.getT s = s.abs.heap.get? := funext (HandSHeadRun.getT_eq s)
  show obsM _ _ = obsM _ _
  rw [e]
theorem run (w : World) : HandSHeadRun.RunEq R (PySem.W.view R.prog [42]) hk ob 12000 ("_wall" :: "BellError" :: "NoClock" :: "NoHappening" :: "NoFit" :: "NoWish" :: "NoRow" :: "NoText" :: "is_whole" :: "LETTERS" :: "MOST_LETTERS" :: "is_name" :: "are_names" :: "is_weight" :: "Happening" :: "Fit" :: "Any" :: "Named" :: "Kind" :: "Place" :: "Least" :: "Not" :: "Several" :: "Both" :: "Either" :: "_law_cell_at" :: "_law_begin" :: "_law_next" :: "_law_name" :: "_law_names" :: "_law_kinds" :: "_law_is_kind" :: "_law_made" :: "_law_refused" :: "_law_odd" :: "_law_named" :: "_law_several" :: []) w := by
  intro os
  kernel_rfl
theorem facts {P : Program} {w : World} {K : PySem.W.Frag} {h : Heap} {mg : Str → Option Value} {f : Addr} (X : K.In h) (G : h.Ns mainGlobals mg) (hfa : mg ("law" : Str) = some (.ref f)) (c : He.SaysD fa fn K ∧ (xs.all fun f => f K) = true) :
    ∃ fd : FuncData, (∀ (s : Shared) (v : Value), BindsTo s fd ⟨[v], []⟩ [("_law_script", v)]) ∧ ∀ base : Heap, K.In base → base.Ns mainGlobals mg → FnOk P w K mg base CX0 7 f fd ["_law_script"] (sp_law K) := by
  have Z : Env K mg := ⟨c.1, ⟨h, X, G⟩, c.2⟩
  obtain ⟨fd, F⟩ := c.1.def_ 20 (d := d_law) rfl
  have e := hfa.symm.trans (Z.glo 49 rfl)
  cases e
  have b := FunD.bindsA (ps := ["_law_script"]) F fun _ _ _ _ _ _ us hl => match us, hl with | [_], _ => rfl
  exact ⟨fd, fun s v => b s [v] rfl, fun base _ _ => okA_law Z F⟩
end Pr
open PySem PySem.W PySem.Calls PyProof.Rows
set_option maxRecDepth 100000 in
set_option maxHeartbeats 0 in
theorem PySem.Challenge.cw_bellsaway_k07_fits_made_holds : PySem.Challenge.rw_bellsaway_k07_fits_made.Holds := by
  w_on; o_law
  refine HandSHeadRun.head_any (r := OpenLaw.row PySem.Challenge.rw_bellsaway_k07_fits_made) (q := view (OpenLaw.row PySem.Challenge.rw_bellsaway_k07_fits_made).prog [42]) (H := Pr.hk) (ob := Pr.ob) (M := 12000) (loose := ("_wall" :: "BellError" :: "NoClock" :: "NoHappening" :: "NoFit" :: "NoWish" :: "NoRow" :: "NoText" :: "is_whole" :: "LETTERS" :: "MOST_LETTERS" :: "is_name" :: "are_names" :: "is_weight" :: "Happening" :: "Fit" :: "Any" :: "Named" :: "Kind" :: "Place" :: "Least" :: "Not" :: "Several" :: "Both" :: "Either" :: "_law_cell_at" :: "_law_begin" :: "_law_next" :: "_law_name" :: "_law_names" :: "_law_kinds" :: "_law_is_kind" :: "_law_made" :: "_law_refused" :: "_law_odd" :: "_law_named" :: "_law_several" :: [])) (d := HandSHeadRun.topDef (OpenLaw.row PySem.Challenge.rw_bellsaway_k07_fits_made).prog 42) (kwd := []) Pr.ob_eq
    (by kernel_rfl) (fun s => by kernel_rfl) Pr.run (by kernel_rfl) (by kernel_rfl) (by kernel_rfl) (by rfl) (by first | assumption | decide +kernel) (by decide +kernel) ⟨rfl, rfl, rfl, rfl, rfl, by decide +kernel⟩ ?hw ?hc
  case hw => w_witness2
  case hc =>
    refine L2.walk_ofE (l := PySem.Challenge.rw_bellsaway_k07_fits_made) (n := 63) (k := 7) (x := "_law_script") (CX := L2.CX0) rfl (by decide) (by kernel_rfl) ⟨rfl, by decide, by decide⟩ ?F (fun _ _ _ _ z => z)
    intro w mg fa h Y G hmg0
    obtain ⟨K, KX, c⟩ := Y
    have hmg : mg ("law" : PySem.Str) = some (.ref fa) := by
      have e : (HandSHeadRun.topDef (OpenLaw.row PySem.Challenge.rw_bellsaway_k07_fits_made).prog 42).name = ("law" : PySem.Str) := by kernel_rfl
      rw [← e]
      exact hmg0
    obtain ⟨fd, hb, hF⟩ := Pr.facts (P := (PySem.Challenge.rw_bellsaway_k07_fits_made).prog) (w := w) KX G hmg c
    exact ⟨K, fd, Pr.sp_law K, KX, hb, fun H a ns hl _ hS => ⟨a, ns, rfl, hS, hl, fun _ => rfl⟩, hF⟩

