import PyProof.Rows.All
import Wide.All
import OpenK.AllK
import Wide.FinOn
import KE.KStateDown
import HandS.Base
import HandS.Call
import HandS.List
import HandS.Comp
import HandS.Ends
import HandS.Dict
import HandS.Iter
import HandS.Text
import HandS.More
import HandS.Words
import HandS.WordsList
import HandS.WordsDict
import HandS.Exc
import HandS.ExcOwn
import HandS.TryOnly
import HandS.WordsExc
import HandS.Defaults
import HandS.Flow
import HandS.IsInst
import HandS.Style
import HandS.ExcIs
import HandS.ExcField
import HandS.Evl
import HandS.Wide
import HandS.Head0
import HandS.Head1
import HandS.Head2
import HandS.HeadEnd
import HandS.HeadHook1
import HandS.HeadHook2
import PySem.Challenge.RW_bellsaway_k11_ways_and_their_moments
set_option Elab.async false
set_option linter.all false
set_option maxRecDepth 100000
set_option maxHeartbeats 4000000
/-! ## own stepping layer: one lemma a reading -/
namespace Vs
open PySem PySem.Spec PyProof.Rows L2

/-! ### frames of heaps -/
/-- all but l stands -/
def Kp (l : Addr) (H H' : Hp) : Prop := ∀ b o, H b = some o → b ≠ l → H' b = some o
theorem Kp.refl (l : Addr) (H : Hp) : Kp l H H := fun _ _ h _ => h
theorem Kp.trans {l : Addr} {H H1 H2 : Hp} (a : Kp l H H1) (b : Kp l H1 H2) : Kp l H H2 := fun x o h n => b x o (a x o h n) n
theorem Kp.upd {l : Addr} {H H1 : Hp} {o : HO} (a : Kp l H H1) : Kp l H (upd H1 l o) := fun x u h n => by rw [upd_ne n]; exact a x u h n
theorem Kp.new {l p : Addr} {H H1 : Hp} {o : HO} (a : Kp l H H1) (hp : H1 p = none) : Kp l H (L2.upd H1 p o) := fun x u h n => by
  have h1 := a x u h n
  rw [upd_ne (ne_of_none h1 hp)]; exact h1
theorem Same.new {p : Addr} {H H1 : Hp} {o : HO} (a : Same H H1) (hp : H1 p = none) : Same H (L2.upd H1 p o) := fun x u h => by
  have h1 := a x u h
  rw [upd_ne (ne_of_none h1 hp)]; exact h1
theorem Same.kp {l : Addr} {H H1 : Hp} (a : Same H H1) : Kp l H H1 := fun x u h _ => a x u h
theorem Kp.same {l : Addr} {H H1 H2 : Hp} (a : Kp l H H1) (b : Same H1 H2) : Kp l H H2 := fun x o h n => b x o (a x o h n)
theorem Same.kpt {l : Addr} {H H1 H2 : Hp} (a : Same H H1) (b : Kp l H1 H2) : Kp l H H2 := fun x o h n => b x o (a x o h) n
theorem Kp.at {l b : Addr} {H H' : Hp} {o : HO} (k : Kp l H H') (h : H b = some o) (n : b ≠ l) : H' b = some o := k b o h n
theorem free_back {H H' : Hp} {l p : Addr} {o : HO} (k : Kp l H H') (h : H' p = none) (hl : H' l = some o) : H p = none := by
  cases e : H p with
  | none => rfl
  | some u =>
    by_cases n : p = l
    · rw [n, hl] at h; cases h
    · rw [k p u e n] at h; cases h

theorem upd_old {H : Hp} {b p : Addr} {o u : HO} (hp : H p = none) (h : H b = some o) : L2.upd H p u b = some o := by rw [upd_ne (ne_of_none h hp)]; exact h
theorem Kp.seq {K : PySem.W.Frag} {l a : Addr} {H H' : Hp} {xs : List V} (k : Kp l H H') (n : a ≠ l) (h : SqL K H a xs) : SqL K H' a xs := by
  rcases h with (h | ⟨o, h⟩) | h
  · exact .inl (.inl (k _ _ h n))
  · exact .inl (.inr ⟨o, k _ _ h n⟩)
  · exact .inr h
theorem Kp.seqn {K : PySem.W.Frag} {l a : Addr} {H H' : Hp} {xs : List V} (k : Kp l H H') (hl : H l = none) (h : SqL K H a xs) : SqL K H' a xs := by
  rcases h with (h | ⟨o, h⟩) | h
  · exact .inl (.inl (k _ _ h (ne_of_none h hl)))
  · exact .inl (.inr ⟨o, k _ _ h (ne_of_none h hl)⟩)
  · exact .inr h
theorem Same.ofKp {l : Addr} {H H1 H2 : Hp} {o : HO} (s : Same H H1) (hl : H1 l = none) (k : Kp l (L2.upd H1 l o) H2) : Same H H2 := fun b u h => by
  have h1 := s b u h
  have n := ne_of_none h1 hl
  exact k b u (by rw [upd_ne n]; exact h1) n
/-! ### the law's list of cells -/
theorem cutV_len (xs : List V) (lo hi : Option Int) : (cutV xs lo hi).length ≤ xs.length := by
  unfold cutV
  rw [List.length_take, List.length_drop]
  omega
theorem cutV_mem {xs : List V} {lo hi : Option Int} {x : V} (h : x ∈ cutV xs lo hi) : x ∈ xs := List.mem_of_mem_drop (List.mem_of_mem_take h)
theorem cells_int {ns : List Int} {c : Int} {lo hi : Option Int} {x : V} (h : x ∈ [V.int c] ++ cutV (ns.map V.int) lo hi) : ∃ z, x = .int z := by
  rcases List.mem_append.mp h with h | h
  · exact ⟨c, by simpa using h⟩
  · obtain ⟨z, _, e⟩ := List.mem_map.mp (cutV_mem h)
    exact ⟨z, e.symm⟩
theorem cells_len {ns : List Int} {c : Int} {lo hi : Option Int} (h : ns.length ≤ 63) : [V.int c].length + (cutV (ns.map V.int) lo hi).length ≤ sizeLine := by
  have h1 := cutV_len (ns.map V.int) lo hi
  rw [List.length_map] at h1
  have h2 : (64 : Nat) ≤ sizeLine := by rw [sizeLine_eq]; decide
  simp only [List.length_cons, List.length_nil]
  omega
/-! ### readings, one step each -/
section
variable {K : PySem.W.Frag} {σ : L2.St} {H : Hp} {Q : VK} {ta tb te tc : TE} {x y v : V} {r r' : R2} {T U : TT} {B : Bool → Hp → Prop} {D : Ends} {i j : Int}
theorem r_var {n : Nat} (h : σ[n]? = some (some v)) (q : Q v H) : tVar n σ H Q := ⟨v, h, q⟩
theorem r_c (q : Q v H) : tC v σ H Q := q
theorem r_op (q : ta σ H fun x H1 => tb σ H1 fun y H2 => r x y H2 Q) : tOp r ta tb σ H Q := q
theorem r_un {r : V → Hp → VK → Prop} (q : ta σ H fun x H1 => r x H1 Q) : tUn r ta σ H Q := q
theorem r_I0 {g : Int → Int → V} (q : Q (g i j) H) : rI0 g (.int i) (.int j) H Q := ⟨i, j, rfl, rfl, q⟩
theorem r_I {C : Int → Int → Prop} {g : Int → Int → V} (c : C i j) (q : Q (g i j) H) : rI C g (.int i) (.int j) H Q := ⟨i, j, rfl, rfl, c, q⟩
theorem r_U {g : Int → V} (q : Q (g i) H) : rU g (.int i) H Q := ⟨i, rfl, q⟩
theorem r_eqI (q : Q (.bl (decide (i = j))) H) : rEq (.int i) (.int j) H Q := ⟨rfl, by
  have e : decide (V.int i = V.int j) = decide (i = j) := by simp
  rw [e]; exact q⟩
theorem r_neI (q : Q (.bl (!decide (i = j))) H) : rNe (.int i) (.int j) H Q := ⟨rfl, by
  have e : decide (V.int i = V.int j) = decide (i = j) := by simp
  rw [e]; exact q⟩
theorem r_eqB {a b : Bool} (q : Q (.bl (decide (a = b))) H) : rEq (.bl a) (.bl b) H Q := ⟨rfl, by
  have e : decide (V.bl a = V.bl b) = decide (a = b) := by simp
  rw [e]; exact q⟩
theorem r_neB {a b : Bool} (q : Q (.bl (!decide (a = b))) H) : rNe (.bl a) (.bl b) H Q := ⟨rfl, by
  have e : decide (V.bl a = V.bl b) = decide (a = b) := by simp
  rw [e]; exact q⟩
theorem r_eqS {a b : Str} (q : Q (.bl (decide (a = b))) H) : rEq (.str a) (.str b) H Q := ⟨rfl, by
  have e : decide (V.str a = V.str b) = decide (a = b) := by simp
  rw [e]; exact q⟩
theorem r_neS {a b : Str} (q : Q (.bl (!decide (a = b))) H) : rNe (.str a) (.str b) H Q := ⟨rfl, by
  have e : decide (V.str a = V.str b) = decide (a = b) := by simp
  rw [e]; exact q⟩
theorem r_test (q : te σ H fun x H1 => ∃ k, x = .bl k ∧ B k H1) : tTest te σ H B := q
theorem r_tB (q : te σ H fun x H1 => ∃ k, x = .bl k ∧ B k H1) : tB te σ H B := q
theorem r_isbl {k : Bool} {P : Bool → Prop} (q : P k) : ∃ c, V.bl k = .bl c ∧ P c := ⟨k, rfl, q⟩
theorem r_and (q : T σ H fun c H1 => if c = true then U σ H1 B else B false H1) : tAnd T U σ H B := q
theorem r_or (q : T σ H fun c H1 => if c = true then B true H1 else U σ H1 B) : tOr T U σ H B := q
theorem r_not (q : T σ H fun c H1 => B (!c) H1) : tNot T σ H B := q
theorem r_andV (q : ta σ H fun x H1 => ∃ c, x = .bl c ∧ if c = true then tb σ H1 Q else Q (.bl false) H1) : tAndV ta tb σ H Q := q
theorem r_orV (q : ta σ H fun x H1 => ∃ c, x = .bl c ∧ if c = true then Q (.bl true) H1 else tb σ H1 Q) : tOrV ta tb σ H Q := q
theorem r_notV (q : ta σ H fun x H1 => ∃ c, x = .bl c ∧ Q (.bl (!c)) H1) : tNotV ta σ H Q := q
theorem r_if (q : T σ H fun c H1 => if c = true then ta σ H1 Q else tb σ H1 Q) : tIf T ta tb σ H Q := q
theorem r_chain (q : ta σ H fun x H1 => tb σ H1 fun y H2 => r x y H2 fun z H3 => ∃ k, z = .bl k ∧ (if k = true then tc σ H3 fun w' H4 => r' y w' H4 Q else Q (.bl false) H3)) : tChain r r' ta tb tc σ H Q := q
theorem r_nil {A : List V → Hp → Prop} (q : A [] H) : tNil σ H A := q
theorem r_cons {tr : TA} {A : List V → Hp → Prop} (q : ta σ H fun x H1 => tr σ H1 fun xs H2 => A (x :: xs) H2) : tCons ta tr σ H A := q
theorem r_tup {t : TA} (q : t σ H fun xs H1 => xs.length ≤ sizeLine ∧ ∀ p, H1 p = none → Q (.ref p) (upd H1 p (.tup xs))) : tTup t σ H Q := q
theorem r_lst {t : TA} (q : t σ H fun xs H1 => xs.length ≤ sizeLine ∧ ∀ p, H1 p = none → Q (.ref p) (upd H1 p (.lst xs))) : tLst t σ H Q := q
theorem r_size {xs : List V} {P : Prop} (h : xs.length ≤ 1000) (q : P) : xs.length ≤ sizeLine ∧ P := ⟨Nat.le_trans h (by rw [sizeLine_eq]; decide), q⟩
theorem r_call {sp : Sp} {dvs : List V} {E : XK} {t : TA} (q : t σ H fun vs H1 => sp (vs ++ dvs) H1 Q E) : tCall sp dvs E t σ H Q := q
theorem r_call0 {sp : Sp} {E : XK} {t : TA} (q : t σ H fun vs H1 => sp vs H1 Q E) : tCall sp [] E t σ H Q := by
  show t σ H fun vs H1 => sp (vs ++ []) H1 Q E
  have e : (fun vs H1 => sp (vs ++ []) H1 Q E) = fun vs H1 => sp vs H1 Q E := by funext vs H1; rw [List.append_nil]
  rw [e]; exact q
theorem r_cb {r : List V → Hp → VK → Prop} {t : TA} (q : t σ H fun vs H1 => r vs H1 Q) : tCB r t σ H Q := q
theorem r_bm {T : String} {r : V → List V → Hp → VK → Prop} {t : TA} (q : ta σ H fun x H1 => tyV K T x H1 ∧ t σ H1 fun xs H2 => r x xs H2 Q) : tBM K T r ta t σ H Q := q
theorem r_bm0 {T : String} {r : V → List V → Hp → VK → Prop} (q : ta σ H fun x H1 => tyV K T x H1 ∧ r x [] H1 Q) : tBM0 K T r ta σ H Q := q
theorem r_seq {t u : TS} {nx bk ct : L2.St → Hp → Prop} {rt : VK} (q : t (Ends.mk (u (Ends.mk nx rt bk ct)) rt bk ct) σ H) : tSeq t u (Ends.mk nx rt bk ct) σ H := q
theorem r_brk {nx bk ct : L2.St → Hp → Prop} {rt : VK} (q : bk σ H) : tBreak (Ends.mk nx rt bk ct) σ H := q
theorem r_cont {nx bk ct : L2.St → Hp → Prop} {rt : VK} (q : ct σ H) : tCont (Ends.mk nx rt bk ct) σ H := q
theorem r_next {nx bk ct : L2.St → Hp → Prop} {rt : VK} (q : nx σ H) : tNext (Ends.mk nx rt bk ct) σ H := q
theorem r_drop {nx bk ct : L2.St → Hp → Prop} {rt : VK} (q : te σ H fun _ H1 => nx σ H1) : tDrop te (Ends.mk nx rt bk ct) σ H := q
theorem r_ret {nx bk ct : L2.St → Hp → Prop} {rt : VK} (q : te σ H rt) : tRet te (Ends.mk nx rt bk ct) σ H := q
theorem r_retN {nx bk ct : L2.St → Hp → Prop} {rt : VK} (q : rt .non H) : tRetN (Ends.mk nx rt bk ct) σ H := q
theorem r_ifS {t u : TS} (q : T σ H fun b H1 => if b = true then t D σ H1 else u D σ H1) : tIfS T t u D σ H := q
theorem r_asg {g : TG} {nx bk ct : L2.St → Hp → Prop} {rt : VK} (q : te σ H fun x H1 => g x σ H1 nx) : tAsg te g (Ends.mk nx rt bk ct) σ H := q
theorem r_gName {n : Nat} {P : L2.St → Hp → Prop} (q : P (σ.set n (some v)) H) : gName n v σ H P := q
theorem r_gSub {to ti : TE} {t : TSet} {P : L2.St → Hp → Prop} (q : to σ H fun o H1 => ti σ H1 fun i H2 => t o i v H2 fun H3 => P σ H3) : gSub to ti t v σ H P := q
theorem r_sl {r : V → Option Int → Option Int → Hp → VK → Prop} {tl th : TO} (q : te σ H fun x H1 => tl σ H1 fun l H2 => th σ H2 fun u H3 => r x l u H3 Q) : tSl r te tl th σ H Q := q
theorem r_noPart {P : Option Int → Hp → Prop} (q : P none H) : tNoPart σ H P := q
theorem r_part {P : Option Int → Hp → Prop} (q : te σ H fun x H1 => ∃ i, x = .int i ∧ P (some i) H1) : tPart te σ H P := q
theorem r_isint {P : Int → Prop} (q : P i) : ∃ k, V.int i = .int k ∧ P k := ⟨i, rfl, q⟩
theorem r_gTup {n : Nat} {t : TGs} {a : Addr} {xs : List V} {P : L2.St → Hp → Prop} (h : SqT K H a xs) (e : xs.length = n) (q : t xs σ H P) : gTup K n t (.ref a) σ H P := ⟨a, xs, rfl, h, e, q⟩
theorem r_gCons {t : TG} {u : TGs} {vs : List V} {P : L2.St → Hp → Prop} (q : t v σ H fun σ' H' => u vs σ' H' P) : gCons t u (v :: vs) σ H P := ⟨v, vs, rfl, q⟩
theorem r_gNil {P : L2.St → Hp → Prop} (q : P σ H) : gNil [] σ H P := ⟨rfl, q⟩
theorem ite_t {A B : Prop} (h : A) : if true = true then A else B := by rw [if_pos rfl]; exact h
theorem ite_f {A B : Prop} (h : B) : if false = true then A else B := by rw [if_neg Bool.false_ne_true]; exact h
theorem ite_nt {A B : Prop} (h : B) : if (!true) = true then A else B := ite_f h
theorem ite_nf {A B : Prop} (h : A) : if (!false) = true then A else B := ite_t h
theorem ite_y {p : Prop} {i : Decidable p} {A B : Prop} (hp : p) (h : A) : if decide p = true then A else B := by rw [decide_eq_true hp]; exact ite_t h
theorem ite_n {p : Prop} {i : Decidable p} {A B : Prop} (hp : ¬ p) (h : B) : if decide p = true then A else B := by rw [decide_eq_false hp]; exact ite_f h
theorem ite_ny {p : Prop} {i : Decidable p} {A B : Prop} (hp : p) (h : B) : if (!decide p) = true then A else B := by rw [decide_eq_true hp]; exact ite_f h
theorem ite_nn {p : Prop} {i : Decidable p} {A B : Prop} (hp : ¬ p) (h : A) : if (!decide p) = true then A else B := by rw [decide_eq_false hp]; exact ite_t h
theorem ite_d {p : Prop} {i : Decidable p} {A B : Prop} (h1 : p → A) (h2 : ¬ p → B) : if decide p = true then A else B := by
  by_cases h : p
  · exact ite_y h (h1 h)
  · exact ite_n h (h2 h)
theorem ite_nd {p : Prop} {i : Decidable p} {A B : Prop} (h1 : ¬ p → A) (h2 : p → B) : if (!decide p) = true then A else B := by
  by_cases h : p
  · exact ite_ny h (h2 h)
  · exact ite_nn h (h1 h)
theorem upd2 {H : Hp} {a : Addr} {o u : HO} : upd (upd H a o) a u = upd H a u := upd_upd
theorem upd_id {H : Hp} {a : Addr} {o : HO} (h : H a = some o) : upd H a o = H := by
  funext b
  by_cases hb : b = a
  · rw [hb, upd_same, h]
  · rw [upd_ne hb]
theorem q_t {Q : VK} {H : Hp} {p : Prop} {i : Decidable p} (hp : p) (q : Q (.bl true) H) : Q (.bl (@decide p i)) H := by rw [decide_eq_true hp]; exact q
theorem ite_d' {p : Prop} {i : Decidable p} {A B : Prop} (h1 : p → B) (h2 : ¬ p → A) : if (!decide p) = true then A else B := ite_nd h2 h1
theorem ite_bt {b : Bool} {A B : Prop} (h : b = true) (q : A) : if b = true then A else B := by rw [h]; exact ite_t q
theorem ite_bf {b : Bool} {A B : Prop} (h : b = false) (q : B) : if b = true then A else B := by rw [h]; exact ite_f q
theorem q_bl {Q : VK} {H : Hp} {b c : Bool} (h : b = c) (q : Q (.bl b) H) : Q (.bl c) H := h ▸ q
theorem ite_b {b : Bool} {A B : Prop} (h1 : b = true → A) (h2 : b = false → B) : if b = true then A else B := by
  cases b
  · exact ite_f (h2 rfl)
  · exact ite_t (h1 rfl)
/-! items -/
theorem r_ixL {p : Addr} {xs : List V} (h : SqL K H p xs) (ha : atI xs i = some v) (q : Q v H) : rIx K (.ref p) (.int i) H Q := .inl ⟨p, xs, i, v, rfl, rfl, h, ha, q⟩
theorem r_ixT {p : Addr} {xs : List V} (h : SqT K H p xs) (ha : atI xs i = some v) (q : Q v H) : rIx K (.ref p) (.int i) H Q := .inr (.inl ⟨p, xs, i, v, rfl, rfl, h, ha, q⟩)
theorem r_ixS {z : Str} {c : Nat} (h : z.length ≤ sizeLine) (ha : atI z.cps.toList i = some c) (q : Q (.str ⟨#[c]⟩) H) : rIx K (.str z) (.int i) H Q := .inr (.inr ⟨z, i, c, rfl, rfl, h, ha, q⟩)
theorem r_setL {p : Addr} {xs : List V} {n : Nat} {P : Hp → Prop} (h : H p = some (.lst xs)) (e : ixN xs.length i = some n) (q : P (upd H p (.lst (xs.set n v)))) : rSetL (.ref p) (.int i) v H P := ⟨p, xs, i, n, rfl, rfl, h, e, q⟩
theorem r_slL {p : Addr} {xs : List V} {lo hi : Option Int} (h : SqL K H p xs) (q : ∀ a, H a = none → Q (.ref a) (upd H a (.lst (cutV xs lo hi)))) : rSlL K (.ref p) lo hi H Q := ⟨p, xs, rfl, h, q⟩
theorem r_cat {p b : Addr} {xs ys : List V} (h : H p = some (.lst xs)) (h2 : H b = some (.lst ys)) (hl : xs.length + ys.length ≤ sizeLine) (q : ∀ a, H a = none → Q (.ref a) (upd H a (.lst (xs ++ ys)))) : rCat (.ref p) (.ref b) H Q := ⟨p, b, xs, ys, rfl, rfl, h, h2, hl, q⟩
theorem r_app {p : Addr} {xs : List V} (h : H p = some (.lst xs)) (hl : xs.length < sizeLine) (q : Q .non (upd H p (.lst (xs ++ [v])))) : rAppend (.ref p) [v] H Q := ⟨p, xs, v, rfl, rfl, h, hl, q⟩
theorem r_tyl {p : Addr} {xs : List V} {P : Prop} (h : H p = some (.lst xs)) (q : P) : tyV K "list" (.ref p) H ∧ P := ⟨Or.inl ⟨rfl, _, Or.inl (Or.inl h)⟩, q⟩
theorem r_isB {a b : Bool} (q : Q (.bl (decide (a = b))) H) : rIsB (.bl a) (.bl b) H Q := ⟨a, b, rfl, rfl, q⟩
theorem r_notB {a b : Bool} (q : Q (.bl (!decide (a = b))) H) : rNotB (.bl a) (.bl b) H Q := ⟨a, b, rfl, rfl, q⟩
theorem r_rep {p : Addr} {xs : List V} (h : H p = some (.lst xs)) (h0 : 0 ≤ i) (h1 : i ≤ 100000) (hl : xs.length * i.toNat ≤ sizeLine) (q : ∀ a, H a = none → Q (.ref a) (upd H a (.lst ((List.replicate i.toNat xs).flatten)))) : rRep (.ref p) (.int i) H Q := ⟨p, i, xs, rfl, rfl, h, by omega, by omega, hl, q⟩
/-! data compared -/
theorem r_eqDe {d e : PyData} (hx : Dp K H x d) (hy : Dp K H y e) (sd : SeqAt.shaped d = true) (h : d = e) (q : Q (.bl true) H) : rEqD K x y H Q := ⟨d, e, hx, hy, sd, h ▸ sd, by rw [← h, SeqAt.eqv_refl _ (SeqAt.canLay_of_shaped sd)]; exact q⟩
theorem r_neDe {d e : PyData} (hx : Dp K H x d) (hy : Dp K H y e) (sd : SeqAt.shaped d = true) (h : d = e) (q : Q (.bl false) H) : rNeD K x y H Q := ⟨d, e, hx, hy, sd, h ▸ sd, by rw [← h, SeqAt.eqv_refl _ (SeqAt.canLay_of_shaped sd)]; exact q⟩
/-! built-ins by name -/
def rInt1 : List V → Hp → VK → Prop := fun xs H Q => (∃ i, xs = [.int i] ∧ Q (.int i) H) ∨ ∃ k : Bool, xs = [.bl k] ∧ Q (.int (if k then 1 else 0)) H
def rDivmod : List V → Hp → VK → Prop := fun xs H Q => ∃ i j, xs = [.int i, .int j] ∧ CDiv i j ∧ ∀ p, H p = none → Q (.ref p) (upd H p (.tup [.int (i / j), .int (i % j)]))
def rMin2 : List V → Hp → VK → Prop := fun xs H Q => ∃ i j : Int, xs = [.int i, .int j] ∧ Q (.int (if j < i then j else i)) H
def rMax2 : List V → Hp → VK → Prop := fun xs H Q => ∃ i j : Int, xs = [.int i, .int j] ∧ Q (.int (if j > i then j else i)) H
def rAddS : R2 := fun x y H Q => ∃ i j, x = .str i ∧ y = .str j ∧ i.length + j.length ≤ sizeLine ∧ Q (.str (i ++ j)) H
def rIsN : R2 := fun x y H Q => y = .non ∧ Q (.bl (decide (x = .non))) H
def rNotN : R2 := fun x y H Q => y = .non ∧ Q (.bl (!decide (x = .non))) H
def tTru (K : PySem.W.Frag) (ta : TE) : TT := fun σ H Q => ta σ H fun x H' => ∃ k, TruV K x H' k ∧ Q k H'
theorem r_min2 (q : Q (.int (if j < i then j else i)) H) : rMin2 [.int i, .int j] H Q := ⟨i, j, rfl, q⟩
theorem r_max2 (q : Q (.int (if j > i then j else i)) H) : rMax2 [.int i, .int j] H Q := ⟨i, j, rfl, q⟩
theorem r_lenL {p : Addr} {xs : List V} (h : SqL K H p xs) (q : Q (.int (xs.length : Nat)) H) : rLen K [.ref p] H Q := ⟨_, _, rfl, .inl ⟨_, h, rfl⟩, q⟩
theorem r_lenT {p : Addr} {xs : List V} (h : SqT K H p xs) (q : Q (.int (xs.length : Nat)) H) : rLen K [.ref p] H Q := ⟨_, _, rfl, .inr ⟨_, h, rfl⟩, q⟩
theorem r_lenS {z : Str} (h : z.length ≤ sizeLine) (q : Q (.int (z.length : Nat)) H) : rLen K [.str z] H Q := ⟨_, _, rfl, ⟨h, rfl⟩, q⟩
theorem r_int1i (q : Q (.int i) H) : rInt1 [.int i] H Q := .inl ⟨_, rfl, q⟩
theorem r_int1b {b : Bool} (q : Q (.int (if b then 1 else 0)) H) : rInt1 [.bl b] H Q := .inr ⟨_, rfl, q⟩
theorem r_divmod (c : CDiv i j) (q : ∀ p, H p = none → Q (.ref p) (upd H p (.tup [.int (i / j), .int (i % j)]))) : rDivmod [.int i, .int j] H Q := ⟨i, j, rfl, c, q⟩
theorem r_isi {a b : String} {c : Bool} (ty : TyX K H x (.type a)) (h : kitB a b = some c) (q : Q (.bl c) H) : rIsi K [x, .ty b] H Q := ⟨x, _, _, _, c, rfl, .ty b, ty, kit_ty h, q⟩
theorem r_isN (q : Q (.bl (decide (x = .non))) H) : rIsN x .non H Q := ⟨rfl, q⟩
theorem r_notN (q : Q (.bl (!decide (x = .non))) H) : rNotN x .non H Q := ⟨rfl, q⟩
theorem r_tru {b : Bool} (h : te σ H fun x H1 => ∃ k, TruV K x H1 k ∧ B k H1) : tTru K te σ H B := h
end
theorem pe_pow2 {X : Cx} {a b r : Int} {j j' p p' pos} (h : a ^ b.toNat = r) (hc : CPow a b) : PE X (.BinOp (.Constant (.int a) j p) .Pow (.Constant (.int b) j' p') pos) (tC (.int r)) :=
  ⟨fun pins s σ H Q I hq => (pe_op op_pow pe_int pe_int).run pins s σ H Q I ⟨a, b, rfl, rfl, hc, (show Q (.int (a ^ b.toNat)) H from by rw [h]; exact hq)⟩⟩
/-! ### loops -/
section
variable {K : PySem.W.Frag} {σ : L2.St} {H : Hp} {D : Ends} {g : TG} {tb : TS} {ta : TA} {te : TE} {wi : TI} {R : It → Hp → Prop}
def ForW (J : It) (g : TG) (tb : TS) (D : Ends) (σ : L2.St) (H1 : Hp) : Prop := ∃ W : Nat → Nat → L2.St → Hp → Prop, (∃ m, W 0 m σ H1) ∧ ∀ i m σ H, W i m σ H →
  (J.stop i H ∧ D.nx σ H) ∨ (J.go i H ∧ ∃ N : L2.St → Hp → Prop, (∀ σ' H', N σ' H' → ∃ m', m' < m ∧ W (i + 1) m' σ' H') ∧ ∀ x H', J.yld i H x H' → g x σ H' fun σ2 H2 => tb { D with nx := N, ct := N, bk := D.nx } σ2 H2)
theorem r_for (q : wi σ H fun J H1 => ForW J g tb D σ H1) : tFor wi g tb D σ H := q
section
variable {nx bk ct : L2.St → Hp → Prop} {rt : VK}
/-- over a list that stands; what follows a turn is a letter -/
theorem r_loopL {p : Addr} {xs : List V} (Pv : Nat → L2.St → Hp → Prop) (hx : SqL K H p xs) (h0 : Pv 0 σ H) (hl : ∀ i σ' H', Pv i σ' H' → SqL K H' p xs)
    (hs : ∀ (i : Nat) (x : V) (σ' : L2.St) (H' : Hp) (N : L2.St → Hp → Prop), xs[i]? = some x → Pv i σ' H' → (∀ σ2 H2, Pv (i + 1) σ2 H2 → N σ2 H2) → g x σ' H' fun σ2 H2 => tb (Ends.mk N rt nx N) σ2 H2)
    (hd : ∀ σ' H', Pv xs.length σ' H' → nx σ' H') : ∃ a, V.ref p = .ref a ∧ (∃ xs, SqL K H a xs) ∧ ForW (Itl K a) g tb (Ends.mk nx rt bk ct) σ H :=
  ⟨p, rfl, ⟨xs, hx⟩, for_list (D := Ends.mk nx rt bk ct) Pv h0 (fun i σ' H' _ p => hl i σ' H' p) (fun i x σ' H' hi p => hs i x σ' H' _ hi p fun _ _ z => z) hd⟩
theorem r_loopT {p : Addr} {xs : List V} (Pv : Nat → L2.St → Hp → Prop) (hx : SqT K H p xs) (h0 : Pv 0 σ H) (hl : ∀ i σ' H', Pv i σ' H' → SqT K H' p xs)
    (hs : ∀ (i : Nat) (x : V) (σ' : L2.St) (H' : Hp) (N : L2.St → Hp → Prop), xs[i]? = some x → Pv i σ' H' → (∀ σ2 H2, Pv (i + 1) σ2 H2 → N σ2 H2) → g x σ' H' fun σ2 H2 => tb (Ends.mk N rt nx N) σ2 H2)
    (hd : ∀ σ' H', Pv xs.length σ' H' → nx σ' H') : ∃ a, V.ref p = .ref a ∧ (∃ xs, SqT K H a xs) ∧ ForW (Itt K a) g tb (Ends.mk nx rt bk ct) σ H :=
  ⟨p, rfl, ⟨xs, hx⟩, for_tup (D := Ends.mk nx rt bk ct) Pv h0 (fun i σ' H' _ p => hl i σ' H' p) (fun i x σ' H' hi p => hs i x σ' H' _ hi p fun _ _ z => z) hd⟩
theorem r_loopR1 {j : Int} (Pv : Nat → L2.St → Hp → Prop) (b : -1000000000 ≤ j ∧ j ≤ 1000000000) (h0 : Pv 0 σ H)
    (hs : ∀ (i : Nat) (σ' : L2.St) (H' : Hp) (N : L2.St → Hp → Prop), i < j.toNat → Pv i σ' H' → (∀ σ2 H2, Pv (i + 1) σ2 H2 → N σ2 H2) → g (.int (i : Int)) σ' H' fun σ2 H2 => tb (Ends.mk N rt nx N) σ2 H2)
    (hd : ∀ σ' H', Pv j.toNat σ' H' → nx σ' H') : ∃ k : Int, [V.int j] = [.int k] ∧ -(2 ^ 62) ≤ k ∧ k < 2 ^ 62 ∧ ForW (Itr 0 k.toNat) g tb (Ends.mk nx rt bk ct) σ H :=
  ⟨j, rfl, by omega, by omega, for_range (D := Ends.mk nx rt bk ct) Pv h0 (fun i σ' H' hi p => by
    have e : (0 : Int) + (i : Int) = (i : Int) := Int.zero_add _
    rw [e]
    exact hs i σ' H' _ hi p fun _ _ z => z) hd⟩
theorem r_loopR2 {a j : Int} (Pv : Nat → L2.St → Hp → Prop) (b : -1000000000000000 ≤ a ∧ a ≤ 1000000000000000 ∧ -1000000000000000 ≤ j ∧ j ≤ 1000000000000000) (h0 : Pv 0 σ H)
    (hs : ∀ (i : Nat) (σ' : L2.St) (H' : Hp) (N : L2.St → Hp → Prop), i < (j - a).toNat → Pv i σ' H' → (∀ σ2 H2, Pv (i + 1) σ2 H2 → N σ2 H2) → g (.int (a + (i : Int))) σ' H' fun σ2 H2 => tb (Ends.mk N rt nx N) σ2 H2)
    (hd : ∀ σ' H', Pv (j - a).toNat σ' H' → nx σ' H') : ∃ k l : Int, [V.int a, V.int j] = [.int k, .int l] ∧ (-(2 ^ 62) ≤ k ∧ k < 2 ^ 62 ∧ -(2 ^ 62) ≤ l ∧ l < 2 ^ 62) ∧ ForW (Itr k (l - k).toNat) g tb (Ends.mk nx rt bk ct) σ H :=
  ⟨a, j, rfl, ⟨by omega, by omega, by omega, by omega⟩, for_range (D := Ends.mk nx rt bk ct) Pv h0 (fun i σ' H' hi p => hs i σ' H' _ hi p fun _ _ z => z) hd⟩
end
theorem r_iList (q : te σ H fun x H1 => ∃ a, x = .ref a ∧ (∃ xs, SqL K H1 a xs) ∧ R (Itl K a) H1) : iList K te σ H R := q
theorem r_iTup (q : te σ H fun x H1 => ∃ a, x = .ref a ∧ (∃ xs, SqT K H1 a xs) ∧ R (Itt K a) H1) : iTup K te σ H R := q
theorem r_iRng1 (q : ta σ H fun vs H1 => ∃ j : Int, vs = [.int j] ∧ -(2 ^ 62) ≤ j ∧ j < 2 ^ 62 ∧ R (Itr 0 j.toNat) H1) : iRng1 ta σ H R := q
theorem r_iRng2 (q : ta σ H fun vs H1 => ∃ i j : Int, vs = [.int i, .int j] ∧ (-(2 ^ 62) ≤ i ∧ i < 2 ^ 62 ∧ -(2 ^ 62) ≤ j ∧ j < 2 ^ 62) ∧ R (Itr i (j - i).toNat) H1) : iRng2 ta σ H R := q
end
/-- behind a statement a word, from which the rest is shown once -/
theorem r_cut {t u : TS} {σ : L2.St} {H : Hp} {nx bk ct : L2.St → Hp → Prop} {rt : VK} (M : L2.St → Hp → Prop) (h : t (Ends.mk M rt bk ct) σ H) (k : ∀ σ' H', M σ' H' → u (Ends.mk nx rt bk ct) σ' H') : Evl.tCut t u (Ends.mk nx rt bk ct) σ H := ⟨M, h, k⟩
/-! ### ranges by a step -/
theorem rg_up {a b c : Int} (h1 : 1 ≤ c) (h2 : c ≤ 1000000) (ha : -1000000000 ≤ a) (ha' : a ≤ 1000000000) (hb : -1000000000 ≤ b) (hb' : b ≤ 1000000000) : RgC a b c (if a < b then ((b - a - 1) / c + 1).toNat else 0) := by
  have hc : c > 0 := by omega
  have e : Builtin.Range.rangeSize a b c = if a < b then (b - a - 1) / c + 1 else 0 := by
    unfold Builtin.Range.rangeSize
    rw [if_pos hc]
  by_cases hab : a < b
  · have q0 : 0 ≤ (b - a - 1) / c := Int.ediv_nonneg (by omega) (by omega)
    have q1 : (b - a - 1) / c ≤ b - a - 1 := Int.ediv_le_self _ (by omega)
    have q2 : (b - a - 1) / c * c ≤ b - a - 1 := Int.ediv_mul_le _ (by omega)
    rw [if_pos hab] at e ⊢
    refine ⟨by omega, by omega, ?_, ?_⟩
    · unfold Builtin.Range.small
      rw [e]
      have q3 : ((b - a - 1) / c + 1) * c = (b - a - 1) / c * c + c := by rw [Int.add_mul, Int.one_mul]
      have q4 : ((b - a - 1) / c + 1 - 1) * c = (b - a - 1) / c * c := by rw [Int.add_sub_cancel]
      have q5 : 0 ≤ (b - a - 1) / c * c := Int.mul_nonneg q0 (by omega)
      simp only [Builtin.Range.rangeFitsLong, Bool.and_eq_true, Bool.or_eq_true, decide_eq_true_eq, beq_iff_eq, hc, if_true]
      first | omega | (simp only [q3, q4]; omega) | (split <;> omega)
    · rw [e]; omega
  · rw [if_neg hab] at e ⊢
    refine ⟨by omega, by omega, ?_, ?_⟩
    · unfold Builtin.Range.small
      rw [e]
      simp only [Builtin.Range.rangeFitsLong, Bool.and_eq_true, Bool.or_eq_true, decide_eq_true_eq, beq_iff_eq, hc, if_true]
      first | omega | (split <;> omega) | simp <;> omega
    · rw [e]; rfl
/-! ### comprehensions whose elements leave the heap -/
section
variable {K : PySem.W.Frag} {σ : L2.St} {H : Hp} {Q : VK} {g : TG} {tt : TT} {te : TE} {wi : TI} {ws : List Nat}
def LcW (J : It) (g : TG) (tt : TT) (te : TE) (vs : List Nat) (σ : L2.St) (H1 : Hp) (Q : VK) : Prop := ∀ D, H1 D = none → ∃ W : Nat → Nat → Hp → Prop, (∃ m, W 0 m (upd H1 D (.lst []))) ∧ ∀ i m H, W i m H →
  (J.stop i H ∧ Q (.ref D) H) ∨ (J.go i H ∧ ∃ Nx : Hp → Prop, (∀ H', Nx H' → ∃ m', m' < m ∧ W (i + 1) m' H') ∧ ∀ x H', J.yld i H x H' → g x (wipe σ vs) H' fun σ2 H2 => wipe σ2 vs = wipe σ vs ∧ tt σ2 H2 fun b H3 =>
    if b = true then te σ2 H3 fun y H4 => ∃ acc, H4 D = some (.lst acc) ∧ acc.length < sizeLine ∧ Nx (upd H4 D (.lst (acc ++ [y]))) else Nx H3)
theorem r_lc (q : wi σ H fun J H1 => LcW J g tt te ws σ H1 Q) : tLc wi g tt te ws σ H Q := q
theorem map_step {xs : List V} {f : V → V} {i : Nat} {x : V} (h : xs[i]? = some x) : (xs.take i).map f ++ [f x] = (xs.take (i + 1)).map f := by
  have hl : i < xs.length := (List.getElem?_eq_some_iff.mp h).1
  have e : xs.take (i + 1) = xs.take i ++ [x] := by
    rw [List.take_add_one, h]; rfl
  rw [e, List.map_append]; rfl
/-- over a list, no test -/
theorem r_lcP {j : Nat} {p : Addr} {xs : List V} (f : V → V) (hx : SqL K H p xs) (hz : xs.length ≤ 100000) (hw : ∀ x, wipe ((wipe σ ws).set j (some x)) ws = wipe σ ws)
    (he : ∀ (x : V) (D : Addr) (acc : List V) (Q' : VK), x ∈ xs → H D = none → Q' (f x) (upd H D (.lst acc)) → te ((wipe σ ws).set j (some x)) (upd H D (.lst acc)) Q') (q : ∀ D, H D = none → Q (.ref D) (upd H D (.lst (xs.map f)))) :
    ∃ a, V.ref p = .ref a ∧ (∃ xs, SqL K H a xs) ∧ LcW (Itl K a) (gName j) tYes te ws σ H Q := by
  refine ⟨p, rfl, ⟨xs, hx⟩, fun D hD => lc_list (K := K) (a := p) (xs := xs) (fun i H' => H' = upd H D (.lst ((xs.take i).map f))) (by simp) (fun i H' _ e => ?_) (fun i x H' hi e => ?_) (fun H' e => ?_)⟩
  · rw [e]; exact Same.seq (Same.new (Same.refl H) hD) hx
  · subst e
    refine ⟨hw x, ?_⟩
    show te _ _ _
    refine he x D _ _ (List.mem_of_getElem? hi) hD ⟨_, upd_same, ?_, ?_⟩
    · rw [List.length_map, List.length_take]
      have h2 : (100000 : Nat) < sizeLine := by rw [sizeLine_eq]; decide
      omega
    · rw [upd2, map_step hi]
  · subst e
    rw [List.take_length]
    exact q D hD
theorem r_lcPT {j : Nat} {p : Addr} {xs : List V} (f : V → V) (hx : SqT K H p xs) (hz : xs.length ≤ 100000) (hw : ∀ x, wipe ((wipe σ ws).set j (some x)) ws = wipe σ ws)
    (he : ∀ (x : V) (D : Addr) (acc : List V) (Q' : VK), x ∈ xs → H D = none → Q' (f x) (upd H D (.lst acc)) → te ((wipe σ ws).set j (some x)) (upd H D (.lst acc)) Q') (q : ∀ D, H D = none → Q (.ref D) (upd H D (.lst (xs.map f)))) :
    ∃ a, V.ref p = .ref a ∧ (∃ xs, SqT K H a xs) ∧ LcW (Itt K a) (gName j) tYes te ws σ H Q := by
  refine ⟨p, rfl, ⟨xs, hx⟩, fun D hD => lc_tup (K := K) (a := p) (xs := xs) (fun i H' => H' = upd H D (.lst ((xs.take i).map f))) (by simp) (fun i H' _ e => ?_) (fun i x H' hi e => ?_) (fun H' e => ?_)⟩
  · rw [e]
    rcases hx with (h | ⟨o, h⟩) | h
    · exact .inl (.inl (Same.new (Same.refl H) hD _ _ h))
    · exact .inl (.inr ⟨o, Same.new (Same.refl H) hD _ _ h⟩)
    · exact .inr h
  · subst e
    refine ⟨hw x, ?_⟩
    show te _ _ _
    refine he x D _ _ (List.mem_of_getElem? hi) hD ⟨_, upd_same, ?_, ?_⟩
    · rw [List.length_map, List.length_take]
      have h2 : (100000 : Nat) < sizeLine := by rw [sizeLine_eq]; decide
      omega
    · rw [upd2, map_step hi]
  · subst e
    rw [List.take_length]
    exact q D hD
theorem r_all {p : Addr} {bs : List Bool} (h : SqL K H p (bs.map V.bl)) (q : Q (.bl (bs.all id)) H) : rAll K [.ref p] H Q := ⟨p, bs, rfl, h, q⟩
theorem r_sum {p : Addr} {ns : List Int} (h : SqL K H p (ns.map V.int)) (q : Q (.int ns.sum) H) : rSum K [.ref p] H Q := ⟨p, ns, rfl, h, q⟩
theorem r_any {p : Addr} {bs : List Bool} (h : SqL K H p (bs.map V.bl)) (q : Q (.bl (bs.any id)) H) : rAny K [.ref p] H Q := ⟨p, bs, rfl, h, q⟩
end
/-! ### while -/
section
variable {σ : L2.St} {H : Hp} {c : TT} {tb : TS} {nx bk ct : L2.St → Hp → Prop} {rt : VK}
/-- what is wanted behind a while's test -/
def WhB (W : Nat → L2.St → Hp → Prop) (m : Nat) (tb : TS) (nx : L2.St → Hp → Prop) (rt : VK) (b : Bool) (σ : L2.St) (H : Hp) : Prop :=
  if b = true then ∃ N : L2.St → Hp → Prop, (∀ σ' H', N σ' H' → ∃ m', m' < m ∧ W m' σ' H') ∧ tb (Ends.mk N rt nx N) σ H else nx σ H
theorem whB {W : Nat → L2.St → Hp → Prop} {m : Nat} {b : Bool} (h1 : b = true → ∀ N : L2.St → Hp → Prop, (∀ m' σ2 H2, m' < m → W m' σ2 H2 → N σ2 H2) → tb (Ends.mk N rt nx N) σ H) (h2 : b = false → nx σ H) : WhB W m tb nx rt b σ H := by
  cases b with
  | true => exact ite_t ⟨_, fun _ _ z => z, h1 rfl _ fun m' σ2 H2 a b => ⟨m', a, b⟩⟩
  | false => exact ite_f (h2 rfl)
theorem r_while (W : Nat → L2.St → Hp → Prop) (m0 : Nat) (h0 : W m0 σ H)
    (hs : ∀ (m : Nat) (σ' : L2.St) (H' : Hp), W m σ' H' → c σ' H' fun b H1 => WhB W m tb nx rt b σ' H1) : tWhile c tb (Ends.mk nx rt bk ct) σ H := ⟨W, ⟨m0, h0⟩, hs⟩
end
theorem r_iRng3 {σ : L2.St} {H : Hp} {ta : TA} {R : It → Hp → Prop} (q : ta σ H fun vs H1 => ∃ (i j c : Int) (n : Nat), vs = [.int i, .int j, .int c] ∧ RgC i j c n ∧ R (Itc i c n) H1) : iRng3 ta σ H R := q
theorem r_loopR3 {σ : L2.St} {H : Hp} {g : TG} {tb : TS} {nx bk ct : L2.St → Hp → Prop} {rt : VK} {a b c : Int} (Pv : Nat → L2.St → Hp → Prop) (h1 : 1 ≤ c ∧ c ≤ 1000000) (ha : -1000000000 ≤ a ∧ a ≤ 1000000000) (hb : -1000000000 ≤ b ∧ b ≤ 1000000000) (h0 : Pv 0 σ H)
    (hs : ∀ (i : Nat) (σ' : L2.St) (H' : Hp) (N : L2.St → Hp → Prop), i < (if a < b then ((b - a - 1) / c + 1).toNat else 0) → Pv i σ' H' → (∀ σ2 H2, Pv (i + 1) σ2 H2 → N σ2 H2) → g (.int (a + (i : Nat) * c)) σ' H' fun σ2 H2 => tb (Ends.mk N rt nx N) σ2 H2)
    (hd : ∀ σ' H', Pv (if a < b then ((b - a - 1) / c + 1).toNat else 0) σ' H' → nx σ' H') :
    ∃ (i j k : Int) (n : Nat), [V.int a, V.int b, V.int c] = [.int i, .int j, .int k] ∧ RgC i j k n ∧ ForW (Itc i k n) g tb (Ends.mk nx rt bk ct) σ H :=
  ⟨a, b, c, _, rfl, rg_up h1.1 h1.2 ha.1 ha.2 hb.1 hb.2, for_rangeC (D := Ends.mk nx rt bk ct) Pv h0 (fun i σ' H' hi p => hs i σ' H' _ hi p fun _ _ z => z) hd⟩
/-! ### tests that leave the heap: what they tell as one proposition -/
def Pu (T : TT) (σ : L2.St) (H : Hp) (p : Prop) : Prop := ∃ b : Bool, (b = true ↔ p) ∧ ∀ B : Bool → Hp → Prop, B b H → T σ H B
section
variable {σ : L2.St} {H : Hp} {T U : TT} {p q : Prop} {D : Ends} {t u : TS} {ta tb : TE} {Q : VK}
theorem pu_and (h1 : Pu T σ H p) (h2 : p → Pu U σ H q) : Pu (tAnd T U) σ H (p ∧ q) := by
  obtain ⟨b, e, h1⟩ := h1
  cases b with
  | false => exact ⟨false, ⟨fun z => (nomatch z), fun z => e.mpr z.1⟩, fun B hB => h1 _ (ite_f hB)⟩
  | true =>
    obtain ⟨c, e2, h2⟩ := h2 (e.mp rfl)
    exact ⟨c, ⟨fun z => ⟨e.mp rfl, e2.mp z⟩, fun z => e2.mpr z.2⟩, fun B hB => h1 _ (ite_t (h2 _ hB))⟩
theorem pu_or (h1 : Pu T σ H p) (h2 : ¬ p → Pu U σ H q) : Pu (tOr T U) σ H (p ∨ q) := by
  obtain ⟨b, e, h1⟩ := h1
  cases b with
  | true => exact ⟨true, ⟨fun _ => .inl (e.mp rfl), fun _ => rfl⟩, fun B hB => h1 _ (ite_t hB)⟩
  | false =>
    have hn : ¬ p := fun z => nomatch e.mpr z
    obtain ⟨c, e2, h2⟩ := h2 hn
    exact ⟨c, ⟨fun z => .inr (e2.mp z), fun z => z.elim (fun y => absurd y hn) e2.mpr⟩, fun B hB => h1 _ (ite_f (h2 _ hB))⟩
theorem pu_not (h1 : Pu T σ H p) : Pu (tNot T) σ H (¬ p) := by
  obtain ⟨b, e, h1⟩ := h1
  refine ⟨!b, ?_, fun B hB => h1 _ hB⟩
  cases b
  · exact ⟨fun _ z => (nomatch e.mpr z), fun _ => rfl⟩
  · exact ⟨fun z => (nomatch z), fun z => absurd (e.mp rfl) z⟩
theorem dec_n {i : Decidable p} : (!(@decide p i)) = true ↔ ¬ p := by
  cases i with
  | isTrue y => exact ⟨fun z => (nomatch z), fun n => absurd y n⟩
  | isFalse y => exact ⟨fun _ => y, fun _ => rfl⟩
theorem pu_x (h : False) : Pu T σ H True := h.elim
theorem pu_d {i : Decidable p} (h : ∀ B : Bool → Hp → Prop, B (@decide p i) H → T σ H B) : Pu T σ H p := ⟨@decide p i, ⟨of_decide_eq_true, decide_eq_true⟩, h⟩
theorem pu_n {i : Decidable p} (h : ∀ B : Bool → Hp → Prop, B (!(@decide p i)) H → T σ H B) : Pu T σ H (¬ p) := ⟨!(@decide p i), dec_n, h⟩
theorem pu_b {b : Bool} (h : ∀ B : Bool → Hp → Prop, B b H → T σ H B) : Pu T σ H (b = true) := ⟨b, Iff.rfl, h⟩
theorem pu_nb {b : Bool} (h : ∀ B : Bool → Hp → Prop, B (!b) H → T σ H B) : Pu T σ H (b = false) := ⟨!b, by cases b <;> decide, h⟩
theorem r_ifP (hT : Pu T σ H p) (h1 : p → t D σ H) (h2 : ¬ p → u D σ H) : tIfS T t u D σ H := by
  obtain ⟨b, e, h⟩ := hT
  cases b with
  | true => exact h _ (ite_t (h1 (e.mp rfl)))
  | false => exact h _ (ite_f (h2 fun z => nomatch e.mpr z))
theorem r_tifP (hT : Pu T σ H p) (h1 : p → ta σ H Q) (h2 : ¬ p → tb σ H Q) : tIf T ta tb σ H Q := by
  obtain ⟨b, e, h⟩ := hT
  cases b with
  | true => exact h _ (ite_t (h1 (e.mp rfl)))
  | false => exact h _ (ite_f (h2 fun z => nomatch e.mpr z))
theorem r_ifPy (hT : Pu T σ H p) (hp : p) (h1 : t D σ H) : tIfS T t u D σ H := r_ifP hT (fun _ => h1) fun n => absurd hp n
theorem r_ifPn (hT : Pu T σ H p) (hp : ¬ p) (h1 : u D σ H) : tIfS T t u D σ H := r_ifP hT (fun n => absurd n hp) fun _ => h1
theorem r_tifPy (hT : Pu T σ H p) (hp : p) (h1 : ta σ H Q) : tIf T ta tb σ H Q := r_tifP hT (fun _ => h1) fun n => absurd hp n
theorem r_tifPn (hT : Pu T σ H p) (hp : ¬ p) (h1 : tb σ H Q) : tIf T ta tb σ H Q := r_tifP hT (fun n => absurd n hp) fun _ => h1
end
end Vs

/-! ## own exceptions: what is raised, caught, asked -/
namespace Vs
open PySem PySem.Spec PyProof.Rows L2
/-- isinstance(e, c) of the exception that a suite holds -/
def rIsX (K : PySem.W.Frag) (cls : Value) (d : Option Addr) (a : Addr) : List V → Hp → VK → Prop := fun xs H Q =>
  ∃ (c : V) (cv : Value) (D : Addr) (b : Bool), xs = [.ref a, c] ∧ cls = .ref D ∧ d = none ∧ ExcC K D ∧ ClsV c cv ∧ PySem.W.kitOne K (.ref D) cv = some b ∧ Q (.bl b) H
def rIsXT (K : PySem.W.Frag) (cls : Value) (d : Option Addr) (a : Addr) : List V → Hp → VK → Prop := fun xs H Q =>
  ∃ (tp : Addr) (cs : List V) (us : List Value) (D : Addr) (b : Bool), xs = [.ref a, .ref tp] ∧ H tp = some (.tup cs) ∧ cls = .ref D ∧ d = none ∧ ExcC K D ∧ Paired ClsV cs us ∧ PySem.W.kitAny K (.ref D) us = some b ∧ Q (.bl b) H
theorem call_isX {X : Cx} {a : Addr} {oe : Obj} {cls : Value} {d : Option Addr} {pn : List (Addr × Obj)} (hz : Zc cls d oe) (hf : ∃ vs, oe.data = .fields vs) : CallR (X.suite a ((a, oe) :: pn)) (.builtin "isinstance") (rIsX X.K cls d a) := by
  intro pins s σ H xs us Q I r h
  obtain ⟨c, cv, D, b, e1, rfl, rfl, C, hc, e, q⟩ := h
  exact call_isE C hz hf pins s σ H xs us Q I r ⟨c, cv, b, e1, fun u ru => hc.eq ru, e, q⟩
theorem call_isXT {X : Cx} {a : Addr} {oe : Obj} {cls : Value} {d : Option Addr} {pn : List (Addr × Obj)} (hz : Zc cls d oe) (hf : ∃ vs, oe.data = .fields vs) : CallR (X.suite a ((a, oe) :: pn)) (.builtin "isinstance") (rIsXT X.K cls d a) := by
  intro pins s σ H xs us Q I r h
  obtain ⟨tp, cs, ws, D, b, rfl, hT, rfl, rfl, C, hc, e, q⟩ := h
  obtain ⟨u1, u2, rfl, r1, r2⟩ := vals2 r
  cases (show u1 = Value.ref a from r1)
  cases (show u2 = Value.ref tp from r2)
  have hget := (I.pin (a, oe) (List.mem_append_left _ List.mem_cons_self)).1
  have J : PySem.W.InstAt s.heap a oe D none := by
    obtain ⟨vs, hv⟩ := hf
    refine ⟨hget, hz.1, ?_, ?_⟩
    · unfold PySem.W.notCls; rw [hv]
    · rw [hz.2]; trivial
  have hO : ObjOk X.prog X.w H s.heap tp (.tup cs) := I.hok tp _ hT
  obtain ⟨_, its, rv, ⟨oc, od, dt, sl⟩, g1, g2, n, g3⟩ := hO
  have e4 : its = ws := ClsV.all hc rv
  subst e4
  dsimp only at g2 g3
  subst g2 g3
  exact PySem.W.kia_tup (PySem.W.handS_kitx_exc C.hg C.hk C.hs C.hd C.ha C.hn C.ht C.hm) I.kIn J g1 e (fun z => nomatch z) fun tk => ⟨.bl b, H, I.tok tk, rfl, q⟩
/-- what such a class must say, as one Bool -/
def excB (K : PySem.W.Frag) (D : Addr) : Bool :=
  decide (PySem.W.findIn K (.ref D) "__getattribute__" = some (some (.builtin "BaseException.__getattribute__"))) &&
  (decide (PySem.W.findIn K (.ref D) "__getattr__" = some none) && (decide (PySem.W.subIn K (.ref D) (.type "BaseException") = some true) &&
  (PySem.W.hasDictIn K D && (decide (PySem.W.findIn K (.ref D) "__class__" = some (some (.builtin "object.__class__"))) &&
  (decide (PySem.W.specialIn K (.builtin "object.__class__") "__get__" = some (some (.builtin "getset_descriptor.__get__"))) &&
  (decide (PySem.W.takesIn K (.builtin "object.__class__") = some true) && decide (PySem.W.mroIn K D (.type "object") = some true)))))))
theorem b2 {a b : Bool} (h : (a && b) = true) : a = true ∧ b = true := Bool.and_eq_true_iff.mp h
theorem excB_ok {K : PySem.W.Frag} {D : Addr} (h : excB K D = true) : ExcC K D := by
  obtain ⟨h1, h⟩ := b2 h
  obtain ⟨h2, h⟩ := b2 h
  obtain ⟨h3, h⟩ := b2 h
  obtain ⟨h4, h⟩ := b2 h
  obtain ⟨h5, h⟩ := b2 h
  obtain ⟨h6, h⟩ := b2 h
  obtain ⟨h7, h8⟩ := b2 h
  exact ⟨of_decide_eq_true h1, of_decide_eq_true h2, of_decide_eq_true h3, h4, of_decide_eq_true h5, of_decide_eq_true h6, of_decide_eq_true h7, of_decide_eq_true h8⟩
/-- the readings -/
def tRaise (E : XK) (C : Addr) : TS := fun _ _ H => E (.ref C) none H
def tTryAs (K : PySem.W.Frag) (c : Value) (i : Nat) (tb : WX → TS) (ts : Addr → Value → Option Addr → TS) (Wout : WX) : TS := fun D σ H => tb (wAs K c i ts Wout D) D σ H
section
variable {K : PySem.W.Frag} {σ : L2.St} {H : Hp} {Q : VK} {D : Ends} {E : XK} {C : Addr}
theorem r_raise (q : E (.ref C) none H) : tRaise E C D σ H := q
theorem r_tryAs {c : Value} {i : Nat} {tb : WX → TS} {ts : Addr → Value → Option Addr → TS} {Wout : WX} (q : tb (wAs K c i ts Wout D) D σ H) : tTryAs K c i tb ts Wout D σ H := q
theorem r_callS {sp : Sp} {W : WX} {t : TA} (q : t σ H fun vs H1 => sp vs H1 Q (WE W σ)) : tCallS sp (WE W) t σ H Q := q
/-- caught -/
theorem r_caught {nx bk ct : L2.St → Hp → Prop} {rt : VK} {cls c : Value} {d : Option Addr} {i : Nat} {ts : Addr → Value → Option Addr → TS} {Wout : WX} (h : PySem.W.exmOne K cls c = some true)
    (q : ∀ a, H a = none → ts a cls d (Ends.mk (fun σ' H' => nx (σ'.set i none) H') rt (fun σ' H' => bk (σ'.set i none) H') (fun σ' H' => ct (σ'.set i none) H')) (σ.set i (some (.ref a))) H) :
    WE (wAs K c i ts Wout (Ends.mk nx rt bk ct)) σ cls d H := ⟨true, h, fun _ => q, fun z => nomatch z⟩
theorem r_isX {a : Addr} {c : V} {cv : Value} {b : Bool} (h : ExcC K C) (hc : ClsV c cv) (e : PySem.W.kitOne K (.ref C) cv = some b) (q : Q (.bl b) H) : rIsX K (.ref C) none a [.ref a, c] H Q := ⟨c, cv, C, b, rfl, rfl, rfl, h, hc, e, q⟩
theorem r_isXT {a tp : Addr} {cs : List V} {us : List Value} {b : Bool} (ht : H tp = some (.tup cs)) (h : ExcC K C) (hc : Paired ClsV cs us) (e : PySem.W.kitAny K (.ref C) us = some b) (q : Q (.bl b) H) : rIsXT K (.ref C) none a [.ref a, .ref tp] H Q := ⟨tp, cs, us, C, b, rfl, ht, rfl, rfl, h, hc, e, q⟩
end
end Vs

/-! ## objects of own classes -/
namespace Vs
open PySem PySem.Spec PyProof.Rows L2
/-- an instance's class, asked by isinstance -/
structure InsT (K : PySem.W.Frag) (C : Addr) : Prop where
  cl : Cls K C
  ha : PySem.W.findIn K (.ref C) "__class__" = some (some (.builtin "object.__class__"))
  hn : PySem.W.specialIn K (.builtin "object.__class__") "__get__" = some (some (.builtin "getset_descriptor.__get__"))
  htk : PySem.W.takesIn K (.builtin "object.__class__") = some true
  hm : PySem.W.mroIn K C (.type "object") = some true
theorem InsT.ty {K : PySem.W.Frag} {H : Hp} {a C dx : Addr} {fs : List (Str × V)} (t : InsT K C) (e : H a = some (.ins C dx fs)) : TyX K H (.ref a) (.ref C) := .base (.ins e t.cl t.ha t.hn t.htk t.hm)
def insB (K : PySem.W.Frag) (C : Addr) : Bool :=
  decide (PySem.W.findIn K (.ref C) "__class__" = some (some (.builtin "object.__class__"))) && (decide (PySem.W.specialIn K (.builtin "object.__class__") "__get__" = some (some (.builtin "getset_descriptor.__get__"))) &&
  (decide (PySem.W.takesIn K (.builtin "object.__class__") = some true) && decide (PySem.W.mroIn K C (.type "object") = some true)))
theorem insB_ok {K : PySem.W.Frag} {C : Addr} (c : Cls K C) (h : insB K C = true) : InsT K C := by
  obtain ⟨h1, h⟩ := b2 h
  obtain ⟨h2, h⟩ := b2 h
  obtain ⟨h3, h4⟩ := b2 h
  exact ⟨c, of_decide_eq_true h1, of_decide_eq_true h2, of_decide_eq_true h3, of_decide_eq_true h4⟩
/-- a method that stands in a class above -/
def methB (K : PySem.W.Frag) (C : Addr) (m : Str) (f : Addr) : Bool := decide (PySem.W.findIn K (.ref C) m = some (some (.ref f))) && (PySem.W.isFn K (.ref f) && PySem.W.keepIn K (.ref f))
theorem methB_ok {K : PySem.W.Frag} {C f : Addr} {m : Str} (h : methB K C m f = true) : Meth K C m f := by
  obtain ⟨h1, h⟩ := b2 h
  obtain ⟨h2, h3⟩ := b2 h
  exact ⟨of_decide_eq_true h1, h2, h3⟩
/-- C() without an own __init__ -/
structure Mk0 (K : PySem.W.Frag) (C : Addr) : Prop where
  makes : PySem.W.makesIn K C = true
  init : PySem.W.findIn K (.ref C) "__init__" = some (some (.builtin "object.__init__"))
  top : PySem.W.mroIn K C (.type "object") = some true
  kp : PySem.W.keepIn K (.ref C) = true
def mk0B (K : PySem.W.Frag) (C : Addr) : Bool := PySem.W.makesIn K C && (decide (PySem.W.findIn K (.ref C) "__init__" = some (some (.builtin "object.__init__"))) && (decide (PySem.W.mroIn K C (.type "object") = some true) && PySem.W.keepIn K (.ref C)))
theorem mk0B_ok {K : PySem.W.Frag} {C : Addr} (h : mk0B K C = true) : Mk0 K C := by
  obtain ⟨h1, h⟩ := b2 h
  obtain ⟨h2, h⟩ := b2 h
  obtain ⟨h3, h4⟩ := b2 h
  exact ⟨h1, of_decide_eq_true h2, of_decide_eq_true h3, h4⟩
section
variable {X : Cx} {pins : List (Addr × Obj)} {σ : L2.St} {H : Hp} {s : Shared} {Q : VK} {C : Addr} {x : Str} {p pos : Pos}
theorem run_bare (M : Mk0 X.K C) (I : Inv X pins σ H s) (h : ∀ x dx, H x = none → H dx = none → dx ≠ x → Q (.ref x) (upd (upd H dx (.own x)) x (.ins C dx []))) :
    wpAny (model X.prog X.w) X.A (call (.ref C) []) (EP X pins σ Q) X.xe s := by
  have hq := h (s.heap.objs.size + 1) s.heap.objs.size (I.hok.fresh (Nat.le_succ _)) (I.hok.fresh (Nat.le_refl _)) (Nat.ne_of_lt (Nat.lt_succ_self _))
  have I2 := Inv.made (C := C) I
  obtain ⟨_, _, _, ho, _⟩ := I2.hok _ _ upd_same
  refine wpAny_call (make_map0 I.kIn M.makes M.init (fun self => .of_pure (PySem.W.oi_bind self)) ?_)
  have t2 : PySem.W.Looks (model X.prog X.w) ((s.heap.push PySem.W.emptyDict).push (PySem.W.instObj C s.heap.objs.size)) (isInstance (.ref (s.heap.objs.size + 1)) (.type "object")) true :=
    ((PySem.W.Looks.ld ho).andThen .now).andThen (PySem.W.looks_mroIn I2.kIn M.top)
  refine codeAny_call_builtin PySem.W.oi_plain PySem.W.entry_oi (@PySem.W.check_slot (model X.prog X.w) _ _ _ "object.__init__" "object" "__init__" (.ref (s.heap.objs.size + 1)) [] [] _ PySem.W.oi_kind PySem.W.oi_split t2 (PySem.W.oi_args _) ?_)
  rw [PySem.W.oi_run]
  exact wpAny_pure (And.intro rfl (show EP X pins σ Q (Value.ref (s.heap.objs.size + 1)) _ from ⟨V.ref (s.heap.objs.size + 1), _, I2, rfl, hq⟩))
/-- C(): all stands, a new instance -/
def tMake0 (C : Addr) : TE := fun _ H Q => ∀ x dx, H x = none → H dx = none → dx ≠ x → Q (.ref x) (upd (upd H dx (.own x)) x (.ins C dx []))
theorem pe_make00 (M : Mk0 X.K C) (hg : Gl X x) (hm : X.mg x = some (.ref C)) (hdb : (x == ("__debug__" : Str)) = false := by decide) : PE X (.Call (.Name x p) [] [] pos) (tMake0 C) := by
  refine ⟨fun pins s σ H Q I h => ?_⟩
  refine wpAny_Call_Name_kw (ld_glob I hg hm ?_ hdb)
  exact PySem.W.callWith_K0 I.kIn M.kp (run_bare M I h)
theorem same_made {H H' : Hp} {x dx : Addr} {C : Addr} (hx : H x = none) (hd : H dx = none) (k : Kp x (upd (upd H dx (.own x)) x (.ins C dx [])) H') : Same H H' := by
  intro b o h
  have n1 : b ≠ x := fun z => by rw [z, hx] at h; cases h
  have n2 : b ≠ dx := fun z => by rw [z, hd] at h; cases h
  exact k b o (by rw [upd_ne n1, upd_ne n2]; exact h) n1
theorem r_make0 (q : ∀ x dx H', H x = none → Same H H' → H' x = some (.ins C dx []) → Q (.ref x) H') : tMake0 C σ H Q :=
  fun x dx hx hd _ => q x dx _ hx (same_made hx hd (Kp.refl _ _)) upd_same
/-- C(..), the arguments read -/
theorem r_make {sp : Sp} {E : XK} {t : TA} (q : t σ H fun vs H1 => ∀ x dx, H1 x = none → (H1 dx = none ∧ dx ≠ x) → sp (.ref x :: vs) (upd (upd H1 dx (.own x)) x (.ins C dx [])) (fun v H2 => v = .non ∧ Q (.ref x) H2) E) : tMake C sp [] E t σ H Q := by
  unfold tMake
  simp only [List.append_nil]
  simp only [and_imp] at q
  exact q
/-- o.f -/
def rFld (K : PySem.W.Frag) (f : Str) (x : V) (H : Hp) (Q : VK) : Prop := ∃ a C dx fs v, x = .ref a ∧ H a = some (.ins C dx fs) ∧ Cls K C ∧ NoAttr K C f ∧ fs.lookup f = some v ∧ Q v H
theorem r_fld {K : PySem.W.Frag} {ta : TE} {f : Str} (q : ta σ H fun y H1 => rFld K f y H1 Q) : tFld K ta f σ H Q := q
theorem r_fldI {K : PySem.W.Frag} {a dx : Addr} {fs : List (Str × V)} {f : Str} {v : V} (h : H a = some (.ins C dx fs)) (c : Cls K C) (n : NoAttr K C f) (l : fs.lookup f = some v) (q : Q v H) : rFld K f (.ref a) H Q := ⟨a, C, dx, fs, v, rfl, h, c, n, l, q⟩
/-- o.f = e -/
def rSet (K : PySem.W.Frag) (f : Str) (y x : V) (H : Hp) (P : Hp → Prop) : Prop := ∃ a C dx fs, x = .ref a ∧ H a = some (.ins C dx fs) ∧ Cls K C ∧ NoAttr K C f ∧ fs.length < 1000 ∧ P (upd H a (.ins C dx (putF f y fs)))
theorem r_sfld {K : PySem.W.Frag} {ta tv : TE} {f : Str} {D : Ends} (q : tv σ H fun y H1 => ta σ H1 fun z H2 => rSet K f y z H2 fun H3 => D.nx σ H3) : sFld K ta tv f D σ H := q
theorem r_set {K : PySem.W.Frag} {a dx : Addr} {fs gs : List (Str × V)} {f : Str} {y : V} {P : Hp → Prop} (h : H a = some (.ins C dx fs)) (c : Cls K C) (n : NoAttr K C f) (l : fs.length < 1000) (e : putF f y fs = gs) (q : P (upd H a (.ins C dx gs))) : rSet K f y (.ref a) H P := ⟨a, C, dx, fs, rfl, h, c, n, l, e ▸ q⟩
/-- o.m(..) -/
def rMe (C : Addr) (m : Str) (x : V) (H : Hp) (P : Prop) : Prop := ∃ a dx fs, x = .ref a ∧ H a = some (.ins C dx fs) ∧ fs.lookup m = none ∧ P
theorem r_meth {sp : Sp} {E : XK} {ta : TE} {t : TA} {m : Str} (q : ta σ H fun y H1 => rMe C m y H1 (t σ H1 fun vs H2 => sp (y :: vs) H2 Q E)) : tMeth C m sp [] E ta t σ H Q := by
  unfold tMeth
  simp only [List.append_nil]
  exact q
theorem r_me {a dx : Addr} {fs : List (Str × V)} {m : Str} {P : Prop} (h : H a = some (.ins C dx fs)) (l : fs.lookup m = none) (p : P) : rMe C m (.ref a) H P := ⟨a, dx, fs, rfl, h, l, p⟩
/-- one of several readings -/
def tAlt (t u : TE) : TE := fun σ H Q => t σ H Q ∨ u σ H Q
theorem pe_alt {e : Expr} {t u : TE} (h : PE X e t) (k : PE X e u) : PE X e (tAlt t u) := ⟨fun pins s σ H Q I h1 => h1.elim (h.run pins s σ H Q I) (k.run pins s σ H Q I)⟩
theorem r_altL {t u : TE} (q : t σ H Q) : tAlt t u σ H Q := .inl q
theorem r_altR {t u : TE} (q : u σ H Q) : tAlt t u σ H Q := .inr q
theorem r_non {P : Prop} (q : P) : V.non = .non ∧ P := ⟨rfl, q⟩
/-- isinstance against any class -/
theorem r_isiG {K : PySem.W.Frag} {v c : V} {t u : Value} {b : Bool} (ty : TyX K H v t) (hc : ClsV c u) (h : PySem.W.kitOne K t u = some b) (q : Q (.bl b) H) : rIsi K [v, c] H Q := ⟨v, c, t, u, b, rfl, hc, ty, h, q⟩
/-- a comprehension that keeps none -/
theorem r_lcN {K : PySem.W.Frag} {tt : TT} {te : TE} {ws : List Nat} {j : Nat} {p : Addr} {xs : List V} (hx : SqL K H p xs) (hw : ∀ x, wipe ((wipe σ ws).set j (some x)) ws = wipe σ ws)
    (he : ∀ (x : V) (H1 : Hp) (B : Bool → Hp → Prop), x ∈ xs → Same H H1 → (∀ H2, Same H1 H2 → B false H2) → tt ((wipe σ ws).set j (some x)) H1 B)
    (q : ∀ D H1, H D = none → Same H H1 → H1 D = some (.lst []) → Q (.ref D) H1) :
    ∃ a, V.ref p = .ref a ∧ (∃ xs, SqL K H a xs) ∧ LcW (Itl K a) (gName j) tt te ws σ H Q := by
  refine ⟨p, rfl, ⟨xs, hx⟩, fun D hD => lc_list (K := K) (a := p) (xs := xs) (fun i H' => Same H H' ∧ H' D = some (.lst [])) ⟨Same.new (Same.refl H) hD, upd_same⟩ (fun i H' _ e => Same.seq e.1 hx) (fun i x H' hi e => ?_) (fun H' e => q D H' hD e.1 e.2)⟩
  refine ⟨hw x, ?_⟩
  show tt _ _ _
  refine he x H' _ (List.mem_of_getElem? hi) e.1 (fun H2 s2 => ?_)
  rw [if_neg (fun z => by cases z)]
  exact ⟨Same.trans e.1 s2, s2 _ _ e.2⟩
end
end Vs

open PySem PySem.Spec PyProof.Rows L2 Vs
namespace Vs
theorem Same.at {H H' : Hp} {b : Addr} {o : HO} (k : Same H H') (h : H b = some o) : H' b = some o := k b o h
theorem sqL_of {K : PySem.W.Frag} {H : Hp} {a : Addr} {o : HO} {xs : List V} (h : H a = some o) (e : o = .lst xs) : SqL K H a xs := SqL.of (e ▸ h)
theorem sqT_of {K : PySem.W.Frag} {H : Hp} {a : Addr} {o : HO} {xs : List V} (h : H a = some o) (e : o = .tup xs) : SqT K H a xs := SqT.of (e ▸ h)
/-- a written place of a written list -/
theorem ix_some {xs : List V} {i : Int} {n : Nat} {v : V} (e : i = (n : Int)) (h : xs[n]? = some v) : atI xs i = some v := by rw [e]; exact atI_nat h
theorem r_ixA {K : PySem.W.Frag} {H : Hp} {Q : VK} {i : Int} {p : Addr} {xs : List V} (P : V → Prop) (h : SqL K H p xs) (h0 : 0 ≤ i) (h1 : i < (xs.length : Int)) (hP : ∀ v ∈ xs, P v) (q : ∀ v, P v → Q v H) : rIx K (.ref p) (.int i) H Q := by
  have hl : i.toNat < xs.length := by omega
  have hg : xs[i.toNat]? = some xs[i.toNat] := List.getElem?_eq_getElem hl
  exact r_ixL h (ix_some (n := i.toNat) (by omega) hg) (q _ (hP _ (List.getElem_mem hl)))
theorem r_ixAT {K : PySem.W.Frag} {H : Hp} {Q : VK} {i : Int} {p : Addr} {xs : List V} (P : V → Prop) (h : SqT K H p xs) (h0 : 0 ≤ i) (h1 : i < (xs.length : Int)) (hP : ∀ v ∈ xs, P v) (q : ∀ v, P v → Q v H) : rIx K (.ref p) (.int i) H Q := by
  have hl : i.toNat < xs.length := by omega
  have hg : xs[i.toNat]? = some xs[i.toNat] := List.getElem?_eq_getElem hl
  exact r_ixT h (ix_some (n := i.toNat) (by omega) hg) (q _ (hP _ (List.getElem_mem hl)))
theorem r_ixH {K : PySem.W.Frag} {H : Hp} {Q : VK} {i : Int} {p : Addr} {xs : List V} (P : V → Hp → Prop) (h : SqL K H p xs) (h0 : 0 ≤ i) (h1 : i < (xs.length : Int)) (hP : ∀ v ∈ xs, P v H) (q : ∀ v, P v H → Q v H) : rIx K (.ref p) (.int i) H Q := r_ixA (fun v => P v H) h h0 h1 hP q
/-- an item of a list of ints, at a place that lies in it -/
theorem r_ixI {K : PySem.W.Frag} {H : Hp} {Q : VK} {i : Int} {p : Addr} {xs : List V} (h : SqL K H p xs) (h0 : 0 ≤ i) (h1 : i < (xs.length : Int)) (hP : ∀ v ∈ xs, ∃ z : Int, v = .int z) (q : ∀ z, Q (.int z) H) : rIx K (.ref p) (.int i) H Q :=
  r_ixA _ h h0 h1 hP fun v ⟨z, e⟩ => e ▸ q z
theorem r_ixIT {K : PySem.W.Frag} {H : Hp} {Q : VK} {i : Int} {p : Addr} {xs : List V} (h : SqT K H p xs) (h0 : 0 ≤ i) (h1 : i < (xs.length : Int)) (hP : ∀ v ∈ xs, ∃ z : Int, v = .int z) (q : ∀ z, Q (.int z) H) : rIx K (.ref p) (.int i) H Q :=
  r_ixAT _ h h0 h1 hP fun v ⟨z, e⟩ => e ▸ q z
end Vs
/-- two addresses apart -/
local macro_rules | `(tactic| k_clsL) => `(tactic| first
  | with_reducible assumption
  | with_reducible exact Ne.symm (by with_reducible assumption)
  | (with_reducible refine' ne_of_none ?h1 ?h2; (case h2 => with_reducible assumption); (case h1 => kcj_m))
  | (with_reducible refine' Ne.symm (ne_of_none ?h1 ?h2); (case h2 => with_reducible assumption); (case h1 => kcj_m))
  | (with_reducible refine' ne_of ?h1 ?h2 ?d; (case h1 => with_reducible assumption); (case h2 => kcj_m); (case d => intro z; cases z)))
/-- what stands at an address -/
local macro_rules | `(tactic| kcj_m) => `(tactic| first
  | with_reducible assumption
  | with_reducible exact upd_same
  | (with_reducible refine' upd_old ?hp ?h; (case hp => with_reducible assumption); (case h => kcj_m))
  | (with_reducible refine' Eq.trans (upd_ne ?ne) ?hq; (case ne => k_clsL); (case hq => kcj_m))
  | (with_reducible refine' Kp.at ?k ?hq ?ne; (case k => with_reducible assumption); (case hq => kcj_m); (case ne => k_clsL))
  | (with_reducible refine' Same.at ?k ?hq; (case k => with_reducible assumption); (case hq => kcj_m)))
local macro_rules | `(tactic| k_places) => `(tactic| first
  | with_reducible assumption
  | (with_reducible refine' Same.seq ?k ?h; (case h => with_reducible assumption); (case k => k_subL))
  | (with_reducible refine' Kp.seqn ?k ?hl ?h; (case h => with_reducible assumption); (case hl => with_reducible assumption); (case k => k_subL))
  | (with_reducible refine' sqL_of ?hq ?e; (case hq => kcj_m); (case e => exact rfl))
  | (with_reducible refine' sqT_of ?hq ?e; (case hq => kcj_m); (case e => exact rfl)))
local macro_rules | `(tactic| k_offL) => `(tactic| first
  | with_reducible assumption
  | (show CMul _ _; unfold CMul; omega)
  | exact ⟨by omega, by omega⟩
  | (show (0 : Int) < _; omega)
  | (show (0 : Int) ≤ _; omega)
  | exact ⟨by omega, by omega, by decide⟩
  | exact wide_div (by omega) (b := 64) (by omega) (by decide) (by decide)
  | exact ⟨by decide, by decide, by decide⟩
  | omega)
/-- a value's type -/
local macro_rules | `(tactic| kfm_turns) => `(tactic| first
  | with_reducible assumption
  | exact .base (.int _)
  | exact .base (.bl _)
  | exact .base .non
  | exact .base (.str _)
  | (refine' .base (.tup ?hq); (case hq => kcj_m))
  | (refine' .base (.lst ?hq); (case hq => kcj_m))
  | (with_reducible refine' InsT.ty ?i ?hq; (case hq => kcj_m); (case i => with_reducible assumption)))
/-- one step -/
local macro_rules | `(tactic| k_memK) => `(tactic| first
  | ((with_reducible refine' r_var ?h ?_); (case h => exact rfl))
  | (with_reducible refine r_c ?_)
  | (with_reducible refine r_op ?_)
  | (with_reducible refine r_un ?_)
  | (with_reducible refine r_seq ?_)
  | (with_reducible refine r_asg ?_)
  | (with_reducible refine r_gName ?_)
  | (with_reducible refine r_I0 ?_)
  | ((with_reducible refine' r_I ?c ?_); (case c => k_offL))
  | (with_reducible refine r_U ?_)
  | (with_reducible refine r_nil ?_)
  | (with_reducible refine r_cons ?_)
  | (with_reducible refine r_call0 ?_)
  | (with_reducible refine r_call ?_)
  | (with_reducible refine r_cb ?_)
  | (with_reducible refine r_test ?_)
  | (with_reducible refine r_tB ?_)
  | (with_reducible refine r_isbl ?_)
  | (with_reducible refine r_isint ?_)
  | (with_reducible refine r_and ?_)
  | (with_reducible refine r_or ?_)
  | (with_reducible refine r_not ?_)
  | (with_reducible refine r_andV ?_)
  | (with_reducible refine r_orV ?_)
  | (with_reducible refine r_notV ?_)
  | ((with_reducible refine' r_ifP ?T ?h1 ?h2); (case T => kpc_turns); k_allIn)
  | ((with_reducible refine' r_tifP ?T ?h1 ?h2); (case T => kpc_turns); k_allIn)
  | (with_reducible refine r_chain ?_)
  | (with_reducible refine r_eqI ?_)
  | (with_reducible refine r_neI ?_)
  | (with_reducible refine r_eqB ?_)
  | (with_reducible refine r_neB ?_)
  | (with_reducible refine r_eqS ?_)
  | (with_reducible refine r_neS ?_)
  | (with_reducible refine ite_t ?_)
  | (with_reducible refine ite_f ?_)
  | (with_reducible refine ite_nt ?_)
  | (with_reducible refine ite_nf ?_)
  | ((with_reducible refine ite_y ?hp ?_); (case hp => first | (with_reducible assumption) | (with_reducible exact rfl) | omega))
  | ((with_reducible refine ite_n ?hp ?_); (case hp => first | (with_reducible assumption) | (with_reducible exact rfl) | omega))
  | ((with_reducible refine ite_ny ?hp ?_); (case hp => first | (with_reducible assumption) | (with_reducible exact rfl) | omega))
  | ((with_reducible refine ite_nn ?hp ?_); (case hp => first | (with_reducible assumption) | (with_reducible exact rfl) | omega))
  | (with_reducible refine r_next ?_)
  | (with_reducible refine r_brk ?_)
  | (with_reducible refine r_cont ?_)
  | (with_reducible refine r_ret ?_)
  | (with_reducible refine r_retN ?_)
  | (with_reducible refine r_drop ?_)
  | (with_reducible refine r_tup ?_)
  | (with_reducible refine r_lst ?_)
  | ((with_reducible refine' r_size ?h ?_); (case h => (first | decide | (simp only [List.length]; omega))))
  | ((with_reducible refine' r_ixL ?h ?ha ?_); (case h => k_places); (case ha => exact rfl))
  | ((with_reducible refine' r_ixT ?h ?ha ?_); (case h => k_places); (case ha => exact rfl))
  | ((with_reducible refine' r_lenL ?h ?_); (case h => k_places))
  | ((with_reducible refine' r_lenT ?h ?_); (case h => k_places))
  | (with_reducible refine r_gSub ?_)
  | ((with_reducible refine' r_setL ?h ?e ?_); (case h => kcj_m); (case e => exact rfl))
  | (with_reducible refine r_int1i ?_)
  | (with_reducible refine r_int1b ?_)
  | (with_reducible refine r_sl ?_)
  | (with_reducible refine r_noPart ?_)
  | ((with_reducible refine' r_slL ?h ?_); (case h => k_places))
  | ((with_reducible refine' r_cat ?h ?h2 ?hl ?_); (case h => kcj_m); (case h2 => kcj_m); (case hl => first | (with_reducible exact cells_len (by with_reducible assumption)) | (simp only [List.length]; rw [sizeLine_eq]; omega)))
  | ((with_reducible refine' r_eqDe ?hx ?hy ?sd ?h ?_); (case hx => kbo_bools); (case hy => kbo_bools); (case sd => exact rfl); (case h => got_up))
  | ((with_reducible refine' r_neDe ?hx ?hy ?sd ?h ?_); (case hx => kbo_bools); (case hy => kbo_bools); (case sd => exact rfl); (case h => got_up))
  | (with_reducible refine r_part ?_)
  | (with_reducible refine r_min2 ?_)
  | (with_reducible refine r_max2 ?_)
  | ((with_reducible refine' r_divmod ?c ?_); (case c => k_offL))
  | ((with_reducible refine' r_isi (c := true) ?ty ?h ?_); (case ty => kfm_turns); (case h => decide +kernel))
  | ((with_reducible refine' r_isi (c := false) ?ty ?h ?_); (case ty => kfm_turns); (case h => decide +kernel))
  | kas_types
  | (with_reducible refine r_fld ?_)
  | ((with_reducible refine' r_fldI ?h ?c ?n ?l ?_); (case h => kcj_m); (case c => with_reducible assumption); (case n => with_reducible assumption); (case l => exact rfl))
  | (with_reducible refine r_sfld ?_)
  | ((with_reducible refine' r_set ?h ?c ?n ?l ?e ?_); (case h => kcj_m); (case c => with_reducible assumption); (case n => with_reducible assumption); (case l => (simp only [List.length]; omega)); (case e => exact rfl))
  | (with_reducible refine r_meth ?_)
  | ((with_reducible refine' r_me ?h ?l ?_); (case h => kcj_m); (case l => exact rfl))
  | (with_reducible refine r_make ?_)
  | (with_reducible refine r_make0 ?_)
  | (with_reducible refine r_non ?_)
  | ((with_reducible refine' r_isiG ?ty (.own _) ?h ?_); (case ty => kfm_turns); (case h => with_reducible assumption))
  | intro p hp
  | (with_reducible refine r_isN ?_)
  | (with_reducible refine r_notN ?_)
  | (with_reducible refine r_for ?_)
  | (with_reducible refine r_iList ?_)
  | (with_reducible refine r_iTup ?_)
  | (with_reducible refine r_iRng1 ?_)
  | (with_reducible refine r_iRng2 ?_)
  | (with_reducible refine r_iRng3 ?_)
  | (with_reducible refine r_lc ?_)
  | (with_reducible refine r_isB ?_)
  | (with_reducible refine r_notB ?_)
  | ((with_reducible refine' r_rep ?h ?h0 ?h1 ?hl ?_); (case h => kcj_m); (case h0 => omega); (case h1 => omega); (case hl => (simp only [List.length]; rw [sizeLine_eq]; omega)))
  | ((with_reducible refine' r_gTup ?h ?e ?_); (case h => k_places); (case e => exact rfl))
  | (with_reducible refine r_gCons ?_)
  | (with_reducible refine r_gNil ?_)
  | ((with_reducible refine' r_all ?h ?_); (case h => k_places))
  | (with_reducible refine r_bm ?_)
  | (with_reducible refine r_bm0 ?_)
  | ((with_reducible refine' r_tyl ?h ?_); (case h => kcj_m)))
local macro_rules | `(tactic| k_ownIn) => `(tactic| repeat (k_memK))

local macro_rules | `(tactic| kcj_in) => `(tactic| first | (with_reducible assumption) | omega | (simp; done) | (simp; omega))
/-- a test's proposition -/
local macro_rules | `(tactic| kpc_turns) => `(tactic| first
  | ((with_reducible refine' pu_and ?a ?b); (case a => kpc_turns); (case b => (intro hp; kpc_turns)))
  | ((with_reducible refine' pu_or ?a ?b); (case a => kpc_turns); (case b => (intro hp; kpc_turns)))
  | ((with_reducible refine' pu_not ?a); (case a => kpc_turns))
  | (refine' pu_d ?a; (case a => (intro B hB; k_ownIn; exact hB)))
  | (refine' pu_n ?a; (case a => (intro B hB; k_ownIn; exact hB)))
  | (refine' pu_nb ?a; (case a => (intro B hB; k_ownIn; exact hB)))
  | (refine' pu_b ?a; (case a => (intro B hB; k_ownIn; exact hB)))
  | (refine pu_x ?_; omega))
/-- an if, its two ways left -/
local macro_rules | `(tactic| keq_rows) => `(tactic| first
  | ((with_reducible refine' r_ifP ?T ?_ ?_); (case T => kpc_turns))
  | ((with_reducible refine' r_tifP ?T ?_ ?_); (case T => kpc_turns)))

/-- all but l stands; all stands -/
local macro_rules | `(tactic| k_subL) => `(tactic| first
  | with_reducible assumption
  | with_reducible exact Kp.refl _ _
  | with_reducible exact Same.refl _
  | (with_reducible refine Kp.upd ?_; k_subL)
  | (with_reducible refine' Kp.new ?a ?hp; (case a => k_subL); (case hp => with_reducible assumption))
  | (with_reducible refine' Same.new ?a ?hp; (case a => k_subL); (case hp => with_reducible assumption))
  | (with_reducible refine' Kp.trans ?a ?b; (case b => with_reducible assumption); (case a => k_subL))
  | (with_reducible refine' Kp.same ?a ?b; (case b => with_reducible assumption); (case a => k_subL))
  | (with_reducible refine' Same.trans ?a ?b; (case b => with_reducible assumption); (case a => k_subL))
  | (with_reducible refine Same.kp ?_; k_subL))

/-- two ways, one of which can't be -/
local macro_rules | `(tactic| k_allIn) => `(tactic| first
  | (rotate_left; (focus (intro hn; exact absurd (by kcj_in) hn)); intro hp)
  | ((focus (intro hn; exact absurd hn (by kcj_in))); intro hp))

/-- data as they stand -/
local macro_rules | `(tactic| kbo_bools) => `(tactic| first
  | exact Dp.int _
  | exact Dp.str _
  | exact Dp.bl _
  | exact Dp.non
  | (with_reducible refine' Dp.tup ?h ?a; (case h => k_places); (case a => keq_hits))
  | (with_reducible refine' Dp.lst ?h ?a; (case h => k_places); (case a => keq_hits)))
local macro_rules | `(tactic| keq_hits) => `(tactic| first
  | exact DpAll.nil
  | (with_reducible refine' DpAll.cons ?x ?y; (case x => kbo_bools); (case y => keq_hits)))
local macro_rules | `(tactic| got_up) => `(tactic| first
  | exact rfl
  | (simp only [PyData.tuple.injEq, PyData.list.injEq, List.cons.injEq, PyData.int.injEq, and_true, true_and]; omega))

/-- an if whose test lays objects -/
local macro_rules | `(tactic| kpt_turns) => `(tactic| (with_reducible first | refine r_ifS ?_ | refine r_if ?_))

/-- an item of written ints at a drawn place -/
local macro_rules | `(tactic| ksw_less) => `(tactic| first
  | ((with_reducible refine' r_ixI ?h ?h0 ?h1 ?hP (fun z => ?_)); (case h => k_places); (case h0 => omega); (case h1 => (simp only [List.length]; omega)); (case hP => simp))
  | ((with_reducible refine' r_ixIT ?h ?h0 ?h1 ?hP (fun z => ?_)); (case h => k_places); (case h0 => omega); (case h1 => (simp only [List.length]; omega)); (case hP => simp)))

namespace Pr
open PySem PySem.Spec PyProof.Rows L2 Vs
/-! ### the law's draws, as plain functions -/
def mix (c k : Int) : Int :=
  (((c + 7919 * k + 1) * 48271 % 2147483647) * (((c + 7919 * k + 1) * 48271 % 2147483647) / 1009 + 69621) % 2147483647) *
    ((((c + 7919 * k + 1) * 48271 % 2147483647) * (((c + 7919 * k + 1) * 48271 % 2147483647) / 1009 + 69621) % 2147483647) / 2003 + 40692 + k) % 2147483399
structure Wl where
  a : Int
  b : Int
  c : Int
  d : Int
abbrev Wl.o (w : Wl) : HO := .lst [.int w.a, .int w.b, .int w.c, .int w.d]
def drF (c d : Int) : Nat → Int
  | 0 => 0
  | n + 1 => drF c d n * 2147483399 + mix c (d + ((n + 1 : Nat) : Int))
def dv (w : Wl) (m : Int) : Int := if w.b = 0 ∧ 0 < w.a then w.a % m else drF w.c w.d (if 1000000 < m then 3 else 1) % m
def dn (w : Wl) (m : Int) : Wl := if w.b = 0 ∧ 0 < w.a then ⟨w.a / m, w.b, w.c, w.d⟩ else ⟨w.a, w.b, w.c, w.d + ((if 1000000 < m then 3 else 1 : Nat) : Int)⟩
theorem dv_lo (w : Wl) {m : Int} (h : 0 < m) : 0 ≤ dv w m := by
  unfold dv
  split
  · exact Int.emod_nonneg _ (by omega)
  · exact Int.emod_nonneg _ (by omega)
theorem dv_hi (w : Wl) {m : Int} (h : 0 < m) : dv w m < m := by
  unfold dv
  split
  · exact Int.emod_lt_of_pos _ h
  · exact Int.emod_lt_of_pos _ h
/-- what is drawn: a number from 0 on below m -/
def cellAt (ns : List Int) (k : Nat) : Int := ns.getD k 0
end Pr

namespace Pr
open PySem PySem.Spec PyProof.Rows L2 Vs
/-! ### values by kinds -/
inductive Kd where
  | int (i : Int) | bl (b : Bool) | non | str (s : Str) | tup (a : Addr) (xs : List V) | lst (a : Addr) (xs : List V)
def Kd.v : Kd → V
  | .int i => .int i
  | .bl b => .bl b
  | .non => .non
  | .str s => .str s
  | .tup a _ => .ref a
  | .lst a _ => .ref a
def Kd.ty : Kd → String
  | .int _ => "int"
  | .bl _ => "bool"
  | .non => "NoneType"
  | .str _ => "str"
  | .tup _ _ => "tuple"
  | .lst _ _ => "list"
def Kd.whole : Kd → Bool
  | .int _ => true
  | _ => false
/-- it stands as it says -/
def Kd.typ (H : Hp) : Kd → Prop
  | .tup a xs => H a = some (.tup xs)
  | .lst a xs => H a = some (.lst xs)
  | _ => True
def Kd.isTup : Kd → Prop
  | .lst _ _ => False
  | _ => True
/-- a tuple's items stand too -/
def Kd.ok (H : Hp) : Kd → Prop
  | .tup a xs => H a = some (.tup xs) ∧ ∀ x ∈ xs, ∃ k : Kd, x = k.v ∧ k.typ H ∧ k.isTup
  | .lst a xs => H a = some (.lst xs)
  | _ => True
theorem Kd.ok.typ {H : Hp} {k : Kd} (h : k.ok H) : k.typ H := by
  cases k with
  | tup a xs => exact h.1
  | lst a xs => exact h
  | _ => trivial
theorem Kd.tyx {K : PySem.W.Frag} {H : Hp} {k : Kd} (h : k.typ H) : TyX K H k.v (.type k.ty) := by
  cases k with
  | int i => exact .base (.int i)
  | bl b => exact .base (.bl b)
  | non => exact .base .non
  | str s => exact .base (.str s)
  | tup a xs => exact .base (.tup h)
  | lst a xs => exact .base (.lst h)
theorem Kd.typ.kp {H H' : Hp} {k : Kd} {l : Addr} {ws : List V} (h : k.typ H) (p : Kp l H H') (hl : H l = some (.lst ws)) (n : k.v ≠ .ref l) : k.typ H' := by
  cases k with
  | tup a xs => exact p a _ h (ne_of h hl (by intro z; cases z))
  | lst a xs => exact p a _ h (fun z => n (by rw [z]; rfl))
  | _ => trivial
theorem Kd.ok.kp {H H' : Hp} {k : Kd} {l : Addr} {ws : List V} (h : k.ok H) (p : Kp l H H') (hl : H l = some (.lst ws)) (n : k.v ≠ .ref l) : k.ok H' := by
  cases k with
  | tup a xs =>
    refine ⟨p a _ h.1 (ne_of h.1 hl (by intro z; cases z)), fun x hx => ?_⟩
    obtain ⟨k, e, t, i⟩ := h.2 x hx
    refine ⟨k, e, t.kp p hl ?_, i⟩
    cases k with
    | tup b ys => intro z; exact ne_of t hl (by intro z; cases z) (V.ref.inj z)
    | lst b ys => exact i.elim
    | _ => intro z; cases z
  | lst a xs => exact p a _ h (fun z => n (by rw [z]; rfl))
  | _ => trivial
theorem Kd.typ.same {H H' : Hp} {k : Kd} (h : k.typ H) (p : Same H H') : k.typ H' := by
  cases k with
  | tup a xs => exact p a _ h
  | lst a xs => exact p a _ h
  | _ => trivial
theorem Kd.ok.same {H H' : Hp} {k : Kd} (h : k.ok H) (p : Same H H') : k.ok H' := by
  cases k with
  | tup a xs =>
    refine ⟨p a _ h.1, fun x hx => ?_⟩
    obtain ⟨k, e, t, i⟩ := h.2 x hx
    exact ⟨k, e, t.same p, i⟩
  | lst a xs => exact p a _ h
  | _ => trivial
theorem kitB_int (k : Kd) : kitB k.ty "int" = some (match k with | .int _ => true | .bl _ => true | _ => false) := by
  cases k with
  | int _ => exact (by decide +kernel : kitB "int" "int" = some true)
  | bl _ => exact (by decide +kernel : kitB "bool" "int" = some true)
  | non => exact (by decide +kernel : kitB "NoneType" "int" = some false)
  | str _ => exact (by decide +kernel : kitB "str" "int" = some false)
  | tup _ _ => exact (by decide +kernel : kitB "tuple" "int" = some false)
  | lst _ _ => exact (by decide +kernel : kitB "list" "int" = some false)
theorem kitB_bool (k : Kd) : kitB k.ty "bool" = some (match k with | .bl _ => true | _ => false) := by
  cases k with
  | int _ => exact (by decide +kernel : kitB "int" "bool" = some false)
  | bl _ => exact (by decide +kernel : kitB "bool" "bool" = some true)
  | non => exact (by decide +kernel : kitB "NoneType" "bool" = some false)
  | str _ => exact (by decide +kernel : kitB "str" "bool" = some false)
  | tup _ _ => exact (by decide +kernel : kitB "tuple" "bool" = some false)
  | lst _ _ => exact (by decide +kernel : kitB "list" "bool" = some false)
theorem kitB_tuple (k : Kd) : kitB k.ty "tuple" = some (match k with | .tup _ _ => true | _ => false) := by
  cases k with
  | int _ => exact (by decide +kernel : kitB "int" "tuple" = some false)
  | bl _ => exact (by decide +kernel : kitB "bool" "tuple" = some false)
  | non => exact (by decide +kernel : kitB "NoneType" "tuple" = some false)
  | str _ => exact (by decide +kernel : kitB "str" "tuple" = some false)
  | tup _ _ => exact (by decide +kernel : kitB "tuple" "tuple" = some true)
  | lst _ _ => exact (by decide +kernel : kitB "list" "tuple" = some false)
theorem kitB_str (k : Kd) : kitB k.ty "str" = some (match k with | .str _ => true | _ => false) := by
  cases k with
  | int _ => exact (by decide +kernel : kitB "int" "str" = some false)
  | bl _ => exact (by decide +kernel : kitB "bool" "str" = some false)
  | non => exact (by decide +kernel : kitB "NoneType" "str" = some false)
  | str _ => exact (by decide +kernel : kitB "str" "str" = some true)
  | tup _ _ => exact (by decide +kernel : kitB "tuple" "str" = some false)
  | lst _ _ => exact (by decide +kernel : kitB "list" "str" = some false)
theorem kitB_list (k : Kd) : kitB k.ty "list" = some (match k with | .lst _ _ => true | _ => false) := by
  cases k with
  | int _ => exact (by decide +kernel : kitB "int" "list" = some false)
  | bl _ => exact (by decide +kernel : kitB "bool" "list" = some false)
  | non => exact (by decide +kernel : kitB "NoneType" "list" = some false)
  | str _ => exact (by decide +kernel : kitB "str" "list" = some false)
  | tup _ _ => exact (by decide +kernel : kitB "tuple" "list" = some false)
  | lst _ _ => exact (by decide +kernel : kitB "list" "list" = some true)
/-- a whole number from lo to hi -/
def btwV (lo hi : Int) : V → Bool
  | .int i => decide (lo ≤ i ∧ i ≤ hi)
  | _ => false
theorem btwV_yes {lo hi : Int} {v : V} (h : btwV lo hi v = true) : ∃ i, v = .int i ∧ lo ≤ i ∧ i ≤ hi := by
  cases v with
  | int i => exact ⟨i, rfl, (of_decide_eq_true h).1, (of_decide_eq_true h).2⟩
  | _ => cases h
def intOf (lo hi : Int) (k : Kd) : Option Int := match k with
  | .int i => if lo ≤ i ∧ i ≤ hi then some i else none
  | _ => none
abbrev zoneOf (k : Kd) : Option Int := intOf (-1439) 1439 k
theorem intOf_some {lo hi i : Int} {k : Kd} (h : intOf lo hi k = some i) : k = .int i ∧ lo ≤ i ∧ i ≤ hi := by
  unfold intOf at h
  cases k with
  | int j =>
    by_cases hj : lo ≤ j ∧ j ≤ hi
    · have e : (if lo ≤ j ∧ j ≤ hi then some j else none) = some i := h
      rw [if_pos hj] at e
      cases e
      exact ⟨rfl, hj.1, hj.2⟩
    · have e : (if lo ≤ j ∧ j ≤ hi then some j else none) = some i := h
      rw [if_neg hj] at e
      cases e
  | _ => cases h
theorem intOf_int {lo hi i : Int} (h0 : lo ≤ i) (h1 : i ≤ hi) : intOf lo hi (.int i) = some i := by
  show (if lo ≤ i ∧ i ≤ hi then some i else none) = some i
  rw [if_pos ⟨h0, h1⟩]
theorem btw_intOf {lo hi : Int} (k : Kd) : btwV lo hi k.v = (intOf lo hi k).isSome := by
  cases k with
  | int i =>
    show decide (lo ≤ i ∧ i ≤ hi) = (if lo ≤ i ∧ i ≤ hi then some i else none).isSome
    by_cases h : lo ≤ i ∧ i ≤ hi
    · rw [if_pos h, decide_eq_true h]; rfl
    · rw [if_neg h, decide_eq_false h]; rfl
  | _ => rfl
/-- quiet hours of a value: none where it is none -/
def quietOf (k : Kd) : Option (Option (Int × Int)) := match k with
  | .non => some none
  | .tup _ [.int s, .int e] => if (0 ≤ s ∧ s ≤ 1439) ∧ (0 ≤ e ∧ e ≤ 1439) ∧ s ≠ e then some (some (s, e)) else none
  | _ => none
theorem quietOf_pair {a : Addr} {s e : Int} : quietOf (.tup a [.int s, .int e]) = if (0 ≤ s ∧ s ≤ 1439) ∧ (0 ≤ e ∧ e ≤ 1439) ∧ s ≠ e then some (some (s, e)) else none := rfl
theorem quietOf_some {k : Kd} {o : Option (Int × Int)} (h : quietOf k = some o) : (k = .non ∧ o = none) ∨ ∃ a s e, k = .tup a [.int s, .int e] ∧ o = some (s, e) ∧ 0 ≤ s ∧ s ≤ 1439 ∧ 0 ≤ e ∧ e ≤ 1439 ∧ s ≠ e := by
  unfold quietOf at h
  split at h
  · cases h; exact .inl ⟨rfl, rfl⟩
  · rename_i a s e
    by_cases hc : (0 ≤ s ∧ s ≤ 1439) ∧ (0 ≤ e ∧ e ≤ 1439) ∧ s ≠ e
    · rw [if_pos hc] at h
      cases h
      exact .inr ⟨a, s, e, rfl, rfl, hc.1.1, hc.1.2, hc.2.1.1, hc.2.1.2, hc.2.2⟩
    · rw [if_neg hc] at h; cases h
  · cases h
theorem quietOf_len {a : Addr} {xs : List V} (h : xs.length ≠ 2) : quietOf (.tup a xs) = none := by
  match xs, h with
  | [], _ => rfl
  | [x], _ => cases x <;> rfl
  | [_, _], h => exact absurd rfl h
  | x :: y :: z :: r, _ => cases x <;> cases y <;> rfl
end Pr

namespace Pr
open PySem PySem.Spec PyProof.Rows L2 Vs
/-! ### a state that numbers are drawn from -/
structure W3 where
  a : Int
  b : Int
  c : Int
abbrev W3.o (w : W3) : HO := .lst [.int w.a, .int w.b, .int w.c]
end Pr

namespace Pr
open PySem PySem.Spec PyProof.Rows L2 Vs
/-- its object, if it has one, is new -/
def Kd.new (H : Hp) (k : Kd) : Prop := ∀ a, k.v = .ref a → H a = none
theorem Kd.new.ne {H : Hp} {k : Kd} {l : Addr} {o : HO} (h : k.new H) (hl : H l = some o) : k.v ≠ .ref l := fun z => by rw [h l z] at hl; cases hl
theorem new_int {H : Hp} {i : Int} : (Kd.int i).new H := fun _ z => by cases z
theorem new_bl {H : Hp} {i : Bool} : (Kd.bl i).new H := fun _ z => by cases z
theorem new_non {H : Hp} : Kd.non.new H := fun _ z => by cases z
theorem new_str {H : Hp} {i : Str} : (Kd.str i).new H := fun _ z => by cases z
theorem new_lst {H : Hp} {a : Addr} {xs : List V} (h : H a = none) : (Kd.lst a xs).new H := fun b z => by cases z; exact h
theorem new_tup {H : Hp} {a : Addr} {xs : List V} (h : H a = none) : (Kd.tup a xs).new H := fun b z => by cases z; exact h
/-- what is no such thing, new at H, standing at H' -/
def Odd (P : Kd → Prop) (H H' : Hp) (v : V) : Prop := ∃ k : Kd, v = k.v ∧ P k ∧ k.typ H' ∧ k.new H
theorem upd_none {H : Hp} {a b : Addr} {o : HO} (h : upd H a o b = none) : H b = none := by
  by_cases e : b = a
  · rw [e, upd_same] at h; cases h
  · rw [upd_ne e] at h; exact h
end Pr
namespace Pr
open PySem PySem.Spec PyProof.Rows L2 Vs He
/-- a way of the i-th kind, made of n -/
inductive WayAt (K : PySem.W.Frag) (H : Hp) (n o : Int) : Nat → V → Prop where
  | now {a dx : Addr} (h : H a = some (.ins (ga K "Now") dx [])) : WayAt K H n o 0 (.ref a)
  | hour {a dx : Addr} (h : H a = some (.ins (ga K "Hour") dx [("minute", .int n)])) (h0 : 0 ≤ n) (h1 : n ≤ 59) : WayAt K H n o 1 (.ref a)
  | day {a dx : Addr} (h : H a = some (.ins (ga K "Day") dx [("minute", .int o)])) (h0 : 0 ≤ o) (h1 : o ≤ 1439) : WayAt K H n o 2 (.ref a)
  | never {a dx : Addr} (h : H a = some (.ins (ga K "Never") dx [])) : WayAt K H n o 3 (.ref a)
theorem WayAt.same {K : PySem.W.Frag} {H H' : Hp} {n o : Int} {i : Nat} {v : V} (h : WayAt K H n o i v) (s : Same H H') : WayAt K H' n o i v := by
  cases h with
  | now h => exact .now (s _ _ h)
  | hour h h0 h1 => exact .hour (s _ _ h) h0 h1
  | day h h0 h1 => exact .day (s _ _ h) h0 h1
  | never h => exact .never (s _ _ h)
theorem WayAt.kp {K : PySem.W.Frag} {H H' : Hp} {n o : Int} {i : Nat} {v : V} {l : Addr} {ws : List V} (h : WayAt K H n o i v) (k : Kp l H H') (hl : H l = some (.lst ws)) : WayAt K H' n o i v := by
  cases h with
  | now h => exact .now (k _ _ h (ne_of h hl (by intro z; cases z)))
  | hour h h0 h1 => exact .hour (k _ _ h (ne_of h hl (by intro z; cases z))) h0 h1
  | day h h0 h1 => exact .day (k _ _ h (ne_of h hl (by intro z; cases z))) h0 h1
  | never h => exact .never (k _ _ h (ne_of h hl (by intro z; cases z)))
/-- it is refused -/
def AskBad (K : PySem.W.Frag) (H : Hp) (z : Str) (k : Kd) (v : V) : Prop := (z = "hour" ∧ intOf 0 59 k = none) ∨ (z = "day" ∧ intOf 0 1439 k = none) ∨ (z = "zone" ∧ zoneOf k = none ∧ ∃ n o i, WayAt K H n o i v)
end Pr

namespace Pr
open PySem PySem.Spec PyProof.Rows L2 He Vs
def top (i : Nat) : Stmt := PySem.Challenge.pw_bellsaway_k11_ways_and_their_moments.main.body.getD i (.Pass ⟨0, 0, 0, 0⟩)
abbrev s_law_begin : Stmt := top 27
def d_law_begin : He.DefD := ⟨("_law_begin", none), "_law_begin", "_law_begin", defArgs s_law_begin, defBody s_law_begin, defScope s_law_begin, [], []⟩
abbrev s_law_next : Stmt := top 28
def d_law_next : He.DefD := ⟨("_law_next", none), "_law_next", "_law_next", defArgs s_law_next, defBody s_law_next, defScope s_law_next, [], []⟩
abbrev s_law_moment : Stmt := top 29
def d_law_moment : He.DefD := ⟨("_law_moment", none), "_law_moment", "_law_moment", defArgs s_law_moment, defBody s_law_moment, defScope s_law_moment, [], []⟩
abbrev s_law_edge : Stmt := top 30
def d_law_edge : He.DefD := ⟨("_law_edge", none), "_law_edge", "_law_edge", defArgs s_law_edge, defBody s_law_edge, defScope s_law_edge, [], []⟩
abbrev s_is_whole : Stmt := top 8
def d_is_whole : He.DefD := ⟨("is_whole", none), "is_whole", "is_whole", defArgs s_is_whole, defBody s_is_whole, defScope s_is_whole, [], []⟩
abbrev s_is_between : Stmt := top 9
def d_is_between : He.DefD := ⟨("is_between", none), "is_between", "is_between", defArgs s_is_between, defBody s_is_between, defScope s_is_between, [], []⟩
abbrev s_sure_minute : Stmt := top 14
def d_sure_minute : He.DefD := ⟨("sure_minute", none), "sure_minute", "sure_minute", defArgs s_sure_minute, defBody s_sure_minute, defScope s_sure_minute, [], []⟩
abbrev s_sure_zone : Stmt := top 13
def d_sure_zone : He.DefD := ⟨("sure_zone", none), "sure_zone", "sure_zone", defArgs s_sure_zone, defBody s_sure_zone, defScope s_sure_zone, [], []⟩
abbrev s_shown : Stmt := top 15
def d_shown : He.DefD := ⟨("shown", none), "shown", "shown", defArgs s_shown, defBody s_shown, defScope s_shown, [], []⟩
abbrev s_next_hour : Stmt := top 16
def d_next_hour : He.DefD := ⟨("next_hour", none), "next_hour", "next_hour", defArgs s_next_hour, defBody s_next_hour, defScope s_next_hour, [], []⟩
abbrev s_Hour_init : Stmt := inClass (top 22) 0
def d_Hour_init : He.DefD := ⟨("Hour", some "__init__"), "__init__", "Hour.__init__", defArgs s_Hour_init, defBody s_Hour_init, defScope s_Hour_init, [], []⟩
abbrev s_next_day : Stmt := top 17
def d_next_day : He.DefD := ⟨("next_day", none), "next_day", "next_day", defArgs s_next_day, defBody s_next_day, defScope s_next_day, [], []⟩
abbrev s_Day_init : Stmt := inClass (top 23) 0
def d_Day_init : He.DefD := ⟨("Day", some "__init__"), "__init__", "Day.__init__", defArgs s_Day_init, defBody s_Day_init, defScope s_Day_init, [], []⟩
abbrev s_law_kinds : Stmt := top 36
def d_law_kinds : He.DefD := ⟨("_law_kinds", none), "_law_kinds", "_law_kinds", defArgs s_law_kinds, defBody s_law_kinds, defScope s_law_kinds, [], []⟩
abbrev s_Way_is_gathered : Stmt := inClass (top 19) 1
def d_Way_is_gathered : He.DefD := ⟨("Way", some "is_gathered"), "is_gathered", "Way.is_gathered", defArgs s_Way_is_gathered, defBody s_Way_is_gathered, defScope s_Way_is_gathered, [], []⟩
abbrev s_Gathering_is_gathered : Stmt := inClass (top 21) 0
def d_Gathering_is_gathered : He.DefD := ⟨("Gathering", some "is_gathered"), "is_gathered", "Gathering.is_gathered", defArgs s_Gathering_is_gathered, defBody s_Gathering_is_gathered, defScope s_Gathering_is_gathered, [], []⟩
abbrev s_law_made_right : Stmt := top 37
def d_law_made_right : He.DefD := ⟨("_law_made_right", none), "_law_made_right", "_law_made_right", defArgs s_law_made_right, defBody s_law_made_right, defScope s_law_made_right, [], []⟩
abbrev s_law_no_zones : Stmt := top 32
def d_law_no_zones : He.DefD := ⟨("_law_no_zones", none), "_law_no_zones", "_law_no_zones", defArgs s_law_no_zones, defBody s_law_no_zones, defScope s_law_no_zones, [], []⟩
abbrev s_law_whole : Stmt := top 35
def d_law_whole : He.DefD := ⟨("_law_whole", none), "_law_whole", "_law_whole", defArgs s_law_whole, defBody s_law_whole, defScope s_law_whole, [], []⟩
abbrev s_law_next_right : Stmt := top 38
def d_law_next_right : He.DefD := ⟨("_law_next_right", none), "_law_next_right", "_law_next_right", defArgs s_law_next_right, defBody s_law_next_right, defScope s_law_next_right, [], []⟩
abbrev s_Now_moment_from : Stmt := inClass (top 20) 0
def d_Now_moment_from : He.DefD := ⟨("Now", some "moment_from"), "moment_from", "Now.moment_from", defArgs s_Now_moment_from, defBody s_Now_moment_from, defScope s_Now_moment_from, [], []⟩
abbrev s_Hour_moment_from : Stmt := inClass (top 22) 1
def d_Hour_moment_from : He.DefD := ⟨("Hour", some "moment_from"), "moment_from", "Hour.moment_from", defArgs s_Hour_moment_from, defBody s_Hour_moment_from, defScope s_Hour_moment_from, [], []⟩
abbrev s_Day_moment_from : Stmt := inClass (top 23) 1
def d_Day_moment_from : He.DefD := ⟨("Day", some "moment_from"), "moment_from", "Day.moment_from", defArgs s_Day_moment_from, defBody s_Day_moment_from, defScope s_Day_moment_from, [], []⟩
abbrev s_Never_moment_from : Stmt := inClass (top 24) 0
def d_Never_moment_from : He.DefD := ⟨("Never", some "moment_from"), "moment_from", "Never.moment_from", defArgs s_Never_moment_from, defBody s_Never_moment_from, defScope s_Never_moment_from, [], []⟩
abbrev s_law_asked : Stmt := top 33
def d_law_asked : He.DefD := ⟨("_law_asked", none), "_law_asked", "_law_asked", defArgs s_law_asked, defBody s_law_asked, defScope s_law_asked, [], []⟩
abbrev s_law_refused : Stmt := top 34
def d_law_refused : He.DefD := ⟨("_law_refused", none), "_law_refused", "_law_refused", defArgs s_law_refused, defBody s_law_refused, defScope s_law_refused, [], []⟩
abbrev s_law_no_minutes : Stmt := top 31
def d_law_no_minutes : He.DefD := ⟨("_law_no_minutes", none), "_law_no_minutes", "_law_no_minutes", defArgs s_law_no_minutes, defBody s_law_no_minutes, defScope s_law_no_minutes, [], []⟩
abbrev s_law : Stmt := top 39
def d_law : He.DefD := ⟨("law", none), "law", "law", defArgs s_law, defBody s_law, defScope s_law, [], []⟩
def fn : List He.DefD := [d_law_begin, d_law_next, d_law_moment, d_law_edge, d_is_whole, d_is_between, d_sure_minute, d_sure_zone, d_shown, d_next_hour, d_Hour_init, d_next_day, d_Day_init, d_law_kinds, d_Way_is_gathered, d_Gathering_is_gathered, d_law_made_right, d_law_no_zones, d_law_whole, d_law_next_right, d_Now_moment_from, d_Hour_moment_from, d_Day_moment_from, d_Never_moment_from, d_law_asked, d_law_refused, d_law_no_minutes, d_law]
def fa : List He.Fa := [.glo "_law_next", .free "bool", .free "int", .free "isinstance", .glo "is_whole", .glo "NoClock", .glo "is_between", .exc "NoClock", .int "DAY" 1440, .glo "sure_zone", .free "divmod", .glo "shown", .glo "sure_minute", .int "HOUR" 60, .glo "next_hour", .cls "Hour", .noat "Hour" "minute", .glo "next_day", .cls "Day", .noat "Day" "minute", .glo "Day", .glo "Hour", .glo "Never", .glo "Now", .glo "Way", .cls "Now", .cls "Never", .glo "_law_kinds", .free "range", .glo "_law_whole", .mkr "Day", .mkr "Hour", .meth "Day" "moment_from", .meth "Hour" "moment_from", .meth "Never" "moment_from", .meth "Now" "moment_from", .glo "BellError", .glo "NoFit", .glo "NoRow", .glo "NoTime", .glo "NoWish", .glo "_law_asked", .free "ValueError", .glo "_law_begin", .glo "_law_edge", .glo "_law_made_right", .glo "_law_moment", .glo "_law_next_right", .glo "_law_no_minutes", .glo "_law_no_zones", .glo "_law_refused", .glo "law"]
def xf_law_kinds (K : PySem.W.Frag) : Bool := decide (PySem.W.kitOne K (.ref (ga K "Now")) (.ref (ga K "Now")) = some true) && (decide (PySem.W.kitOne K (.ref (ga K "Now")) (.ref (ga K "Hour")) = some false) && (decide (PySem.W.kitOne K (.ref (ga K "Now")) (.ref (ga K "Day")) = some false) && (decide (PySem.W.kitOne K (.ref (ga K "Now")) (.ref (ga K "Never")) = some false) && (decide (PySem.W.kitOne K (.ref (ga K "Now")) (.ref (ga K "Way")) = some true) && (decide (PySem.W.kitOne K (.ref (ga K "Hour")) (.ref (ga K "Now")) = some false) && (decide (PySem.W.kitOne K (.ref (ga K "Hour")) (.ref (ga K "Hour")) = some true) && (decide (PySem.W.kitOne K (.ref (ga K "Hour")) (.ref (ga K "Day")) = some false) && (decide (PySem.W.kitOne K (.ref (ga K "Hour")) (.ref (ga K "Never")) = some false) && (decide (PySem.W.kitOne K (.ref (ga K "Hour")) (.ref (ga K "Way")) = some true) && (decide (PySem.W.kitOne K (.ref (ga K "Day")) (.ref (ga K "Now")) = some false) && (decide (PySem.W.kitOne K (.ref (ga K "Day")) (.ref (ga K "Hour")) = some false) && (decide (PySem.W.kitOne K (.ref (ga K "Day")) (.ref (ga K "Day")) = some true) && (decide (PySem.W.kitOne K (.ref (ga K "Day")) (.ref (ga K "Never")) = some false) && (decide (PySem.W.kitOne K (.ref (ga K "Day")) (.ref (ga K "Way")) = some true) && (decide (PySem.W.kitOne K (.ref (ga K "Never")) (.ref (ga K "Now")) = some false) && (decide (PySem.W.kitOne K (.ref (ga K "Never")) (.ref (ga K "Hour")) = some false) && (decide (PySem.W.kitOne K (.ref (ga K "Never")) (.ref (ga K "Day")) = some false) && (decide (PySem.W.kitOne K (.ref (ga K "Never")) (.ref (ga K "Never")) = some true) && (decide (PySem.W.kitOne K (.ref (ga K "Never")) (.ref (ga K "Way")) = some true))))))))))))))))))))
def xf_law_refused (K : PySem.W.Frag) : Bool := excB K (ga K "NoClock") && (decide (PySem.W.exmOne K (.ref (ga K "NoClock")) (.ref (ga K "BellError")) = some true) &&
  (decide (PySem.W.kitAny K (.ref (ga K "NoClock")) [.ref (ga K "NoFit"), .ref (ga K "NoRow"), .ref (ga K "NoTime"), .ref (ga K "NoWish")] = some false) &&
  (decide (PySem.W.kitOne K (.ref (ga K "NoClock")) (.ref (ga K "NoClock")) = some true) && decide (PySem.W.kitOne K (.ref (ga K "NoClock")) (.type "ValueError") = some true))))
def xs : List (PySem.W.Frag → Bool) := [xf_law_kinds, (fun K => insB K (ga K "Now")), (fun K => insB K (ga K "Hour")), (fun K => insB K (ga K "Day")), (fun K => insB K (ga K "Never")), (fun K => methB K (ga K "Day") "is_gathered" (ma K (ga K "Gathering") "is_gathered")), (fun K => methB K (ga K "Hour") "is_gathered" (ma K (ga K "Gathering") "is_gathered")), (fun K => methB K (ga K "Never") "is_gathered" (ma K (ga K "Way") "is_gathered")), (fun K => methB K (ga K "Now") "is_gathered" (ma K (ga K "Way") "is_gathered")), xf_law_refused, (fun K => mk0B K (ga K "Never")), (fun K => mk0B K (ga K "Now"))]
/-! ### what the head tells -/
abbrev AlM : Type := AlD × Bool
def obsM (n : Nat) (g : Addr → Option Obj) : AlM := (obsDG n fa fn g, xs.all fun f => f (frG g (asD g n)))
def hookM (n : Nat) : PySem.W.Hook where
  α := AlM
  obs := fun s => obsM n s.heap.get?
  val := fun _ => (valD fn, true)
  says := fun _ h => ∃ K : PySem.W.Frag, K.In h ∧ (SaysD fa fn K ∧ (xs.all fun f => f K) = true)
  of := fun _ _ e => ⟨_, frG_in, congrArg (fun z : AlM => z.1) e, congrArg (fun z : AlM => z.2) e⟩
  keeps := fun _ _ _ ⟨K, hK, c⟩ k => ⟨K, PySem.W.Frag.In.keeps hK k, c⟩
structure Env (K : PySem.W.Frag) (mg : Str → Option Value) : Prop where
  c : SaysD fa fn K
  g : ∃ h : Heap, K.In h ∧ h.Ns mainGlobals mg
  xa : (xs.all fun f => f K) = true
theorem Env.glo {K : PySem.W.Frag} {mg : Str → Option Value} (Z : Env K mg) (i : Nat) {x : Str} (h : fa[i]? = some (.glo x)) : mg x = some (.ref (ga K x)) := let ⟨_, X, G⟩ := Z.g; glo_ok X G (Z.c.fact i h)
theorem Env.free {K : PySem.W.Frag} {mg : Str → Option Value} (Z : Env K mg) (i : Nat) {x : Str} (h : fa[i]? = some (.free x)) : mg x = none := let ⟨_, X, G⟩ := Z.g; free_ok X G (Z.c.fact i h)
theorem Env.int {K : PySem.W.Frag} {mg : Str → Option Value} (Z : Env K mg) (j : Nat) {x : Str} {i : Int} (h : fa[j]? = some (.int x i)) : ∃ t, mg x = some (.int i t) := let ⟨_, X, G⟩ := Z.g; int_ok X G (Z.c.fact j h)
theorem Env.str {K : PySem.W.Frag} {mg : Str → Option Value} (Z : Env K mg) (j : Nat) {x z : Str} (h : fa[j]? = some (.str x z)) : ∃ t, mg x = some (.str z t) := let ⟨_, X, G⟩ := Z.g; str_ok X G (Z.c.fact j h)
theorem Env.x {K : PySem.W.Frag} {mg : Str → Option Value} (Z : Env K mg) (i : Nat) {f : PySem.W.Frag → Bool} (h : xs[i]? = some f) : f K = true := List.all_eq_true.mp Z.xa f (List.mem_of_getElem? h)

/-! ### _law_begin -/
def sp_law_begin (K : PySem.W.Frag) : Sp := fun vs H Q _ => ∃ (c : Int), vs = [.int c] ∧ ∀ p w, H p = none → Q (.ref p) (upd H p (W3.o w))
theorem sp_begin_use {K : PySem.W.Frag} {H : Hp} {Q : VK} {E : XK} {c : Int} (q : ∀ p w, H p = none → Q (.ref p) (upd H p (W3.o w))) : sp_law_begin K [.int c] H Q E := ⟨_, rfl, q⟩
local macro_rules | `(tactic| kas_types) => `(tactic| (with_reducible refine sp_begin_use (fun p w hp => ?_)))
def t_law_begin (K : PySem.W.Frag) : TS :=
  (tRet (tLst (tCons (tOp (rI CMul fun i j => .int (i * j)) (tOp (rI CDiv fun i j => .int (i / j)) (tVar 0) (tC (.int 2))) (tOp (rI0 fun i j => .int (i - j)) (tC (.int 1)) (tOp (rI (fun _ j => 0 < j) fun i j => .int (i % j)) (tVar 0) (tC (.int 2))))) (tCons (tOp (rI (fun _ j => 0 < j) fun i j => .int (i % j)) (tVar 0) (tC (.int 2147483647))) (tCons (tC (.int 0)) tNil)))))
theorem run_law_begin {K : PySem.W.Frag} {vs : List V} {H : Hp} {Q : VK} {E : XK} (h : sp_law_begin K vs H Q E) : t_law_begin K (Ends.mk (fun _ H' => Q .non H') Q (fun _ _ => False) (fun _ _ => False)) (start ["_law_cell"] vs) H := by
  obtain ⟨c, rfl, q⟩ := h
  unfold t_law_begin
  k_ownIn
  exact q _ ⟨_, _, _⟩ (by assumption)
theorem len_law_begin {K : PySem.W.Frag} {vs : List V} {H : Hp} {Q : VK} {E : XK} (h : sp_law_begin K vs H Q E) : vs.length = 1 := by
  first | (obtain ⟨rfl, _⟩ := h; rfl) | (obtain ⟨_, rfl, _⟩ := h; rfl) | (obtain ⟨_, _, rfl, _⟩ := h; rfl) | (obtain ⟨_, _, _, rfl, _⟩ := h; rfl) | (obtain ⟨_, _, _, _, rfl, _⟩ := h; rfl) | (obtain ⟨_, _, _, _, _, rfl, _⟩ := h; rfl) | (obtain ⟨_, _, _, _, _, _, rfl, _⟩ := h; rfl) | (obtain ⟨_, _, _, _, _, _, _, rfl, _⟩ := h; rfl) | (obtain ⟨_, _, _, _, _, _, _, _, rfl, _⟩ := h; rfl) | (obtain ⟨_, _, _, _, _, _, _, _, _, rfl, _⟩ := h; rfl) | (obtain ⟨_, _, _, _, _, _, _, _, _, _, rfl, _⟩ := h; rfl) | (obtain ⟨_, _, _, _, _, _, _, _, _, _, _, rfl, _⟩ := h; rfl) | (obtain ⟨_, _, _, _, _, _, _, _, _, _, _, _, rfl, _⟩ := h; rfl) | (obtain ⟨_, _, _, _, _, _, _, _, _, _, _, _, _, rfl, _⟩ := h; rfl)
/-! ### _law_next -/
def sp_law_next (K : PySem.W.Frag) : Sp := fun vs H Q _ => ∃ (l : Addr) (w : W3) (m : Int), vs = [.ref l, .int m] ∧ H l = some w.o ∧ 0 < m ∧ m ≤ 1000000000000000000 ∧ ∀ v w', 0 ≤ v → v < m → Q (.int v) (upd H l (W3.o w'))
theorem sp_next_use {K : PySem.W.Frag} {H : Hp} {Q : VK} {E : XK} {l : Addr} {w : W3} {m : Int} (h : H l = some w.o) (h0 : 0 < m) (h1 : m ≤ 1000000000000000000) (q : ∀ v w', 0 ≤ v → v < m → Q (.int v) (upd H l (W3.o w'))) :
    sp_law_next K [.ref l, .int m] H Q E := ⟨l, w, m, rfl, h, h0, h1, q⟩
local macro_rules | `(tactic| kas_types) => `(tactic| ((with_reducible refine' sp_next_use ?h ?h0 ?h1 (fun v w' l0 l1 => ?_)); (case h => kcj_m); (case h0 => omega); (case h1 => omega)))
def t_law_next (K : PySem.W.Frag) : TS :=
  (tSeq (tIfS (tTest (tOp (rI0 fun i j => .bl (decide (j < i))) (tOp (rIx K) (tVar 0) (tC (.int 0))) (tC (.int 0)))) (tSeq (tAsg (tOp (rI (fun _ j => 0 < j) fun i j => .int (i % j)) (tOp (rIx K) (tVar 0) (tC (.int 0))) (tVar 1)) (gName 2))
    (tSeq (tAsg (tOp (rI CDivW fun i j => .int (i / j)) (tOp (rIx K) (tVar 0) (tC (.int 0))) (tVar 1)) (gSub (tVar 0) (tC (.int 0)) rSetL))
    (tRet (tVar 2)))) tNext)
    (tSeq (tAsg (tOp (rI0 fun i j => .int (i + j)) (tOp (rIx K) (tVar 0) (tC (.int 2))) (tC (.int 1))) (gSub (tVar 0) (tC (.int 2)) rSetL))
    (tSeq (tAsg (tOp (rI (fun _ j => 0 < j) fun i j => .int (i % j)) (tOp (rI CMul fun i j => .int (i * j)) (tOp (rI0 fun i j => .int (i + j)) (tOp (rI0 fun i j => .int (i + j)) (tOp (rIx K) (tVar 0) (tC (.int 1))) (tOp (rI CMul fun i j => .int (i * j)) (tC (.int 7919)) (tOp (rIx K) (tVar 0) (tC (.int 2))))) (tC (.int 1))) (tC (.int 48271))) (tC (.int 2147483647))) (gName 3))
    (tSeq (tAsg (tOp (rI (fun _ j => 0 < j) fun i j => .int (i % j)) (tOp (rI CMul fun i j => .int (i * j)) (tVar 3) (tOp (rI0 fun i j => .int (i + j)) (tOp (rI CDiv fun i j => .int (i / j)) (tVar 3) (tC (.int 1009))) (tC (.int 69621)))) (tC (.int 2147483647))) (gName 3))
    (tSeq (tAsg (tOp (rI (fun _ j => 0 < j) fun i j => .int (i % j)) (tOp (rI CMul fun i j => .int (i * j)) (tVar 3) (tOp (rI0 fun i j => .int (i + j)) (tOp (rI CDiv fun i j => .int (i / j)) (tVar 3) (tC (.int 2003))) (tC (.int 40692)))) (tC (.int 2147483399))) (gName 3))
    (tRet (tOp (rI (fun _ j => 0 < j) fun i j => .int (i % j)) (tOp (rI CDiv fun i j => .int (i / j)) (tVar 3) (tC (.int 7))) (tVar 1))))))))
theorem run_law_next {K : PySem.W.Frag} {vs : List V} {H : Hp} {Q : VK} {E : XK} (h : sp_law_next K vs H Q E) : t_law_next K (Ends.mk (fun _ H' => Q .non H') Q (fun _ _ => False) (fun _ _ => False)) (start ["_law_state", "_law_base", "_law_found", "_law_number"] vs) H := by
  obtain ⟨l, w, m, rfl, hl, h0, h1, q⟩ := h
  unfold t_law_next
  k_ownIn
  keq_rows
  · intro hc
    k_ownIn
    exact q _ ⟨w.a / m, w.b, w.c⟩ (Int.emod_nonneg _ (by omega)) (Int.emod_lt_of_pos _ h0)
  · intro hc
    k_ownIn
    exact q _ ⟨w.a, w.b, w.c + 1⟩ (Int.emod_nonneg _ (by omega)) (Int.emod_lt_of_pos _ h0)
theorem len_law_next {K : PySem.W.Frag} {vs : List V} {H : Hp} {Q : VK} {E : XK} (h : sp_law_next K vs H Q E) : vs.length = 2 := by
  first | (obtain ⟨rfl, _⟩ := h; rfl) | (obtain ⟨_, rfl, _⟩ := h; rfl) | (obtain ⟨_, _, rfl, _⟩ := h; rfl) | (obtain ⟨_, _, _, rfl, _⟩ := h; rfl) | (obtain ⟨_, _, _, _, rfl, _⟩ := h; rfl) | (obtain ⟨_, _, _, _, _, rfl, _⟩ := h; rfl) | (obtain ⟨_, _, _, _, _, _, rfl, _⟩ := h; rfl) | (obtain ⟨_, _, _, _, _, _, _, rfl, _⟩ := h; rfl) | (obtain ⟨_, _, _, _, _, _, _, _, rfl, _⟩ := h; rfl) | (obtain ⟨_, _, _, _, _, _, _, _, _, rfl, _⟩ := h; rfl) | (obtain ⟨_, _, _, _, _, _, _, _, _, _, rfl, _⟩ := h; rfl) | (obtain ⟨_, _, _, _, _, _, _, _, _, _, _, rfl, _⟩ := h; rfl) | (obtain ⟨_, _, _, _, _, _, _, _, _, _, _, _, rfl, _⟩ := h; rfl) | (obtain ⟨_, _, _, _, _, _, _, _, _, _, _, _, _, rfl, _⟩ := h; rfl)
/-! ### _law_moment -/
def sp_law_moment (K : PySem.W.Frag) : Sp := fun vs H Q _ => ∃ (l : Addr) (w : W3), vs = [.ref l] ∧ H l = some w.o ∧ ∀ v w' H', H' l = some (W3.o w') → Kp l H H' → Q (.int v) H'
theorem sp_moment_use {K : PySem.W.Frag} {H : Hp} {Q : VK} {E : XK} {l : Addr} {w : W3} (h : H l = some w.o) (q : ∀ v w' H', H' l = some (W3.o w') → Kp l H H' → Q (.int v) H') : sp_law_moment K [.ref l] H Q E := ⟨l, w, rfl, h, q⟩
local macro_rules | `(tactic| kas_types) => `(tactic| ((with_reducible refine' sp_moment_use ?h (fun v w' H' hl kp => ?_)); (case h => kcj_m)))
def t_law_moment (K : PySem.W.Frag) : TS :=
  (tSeq (tAsg (tOp (rI0 fun i j => .int (i - j)) (tCall (sp_law_next K) [] E0 (tCons (tVar 0) (tCons (tC (.int 3000)) tNil))) (tC (.int 1500))) (gName 1))
    (tSeq (tIfS (tTest (tOp rEq (tCall (sp_law_next K) [] E0 (tCons (tVar 0) (tCons (tC (.int 3)) tNil))) (tC (.int 0)))) (tRet (tVar 1)) tNext)
    (tSeq (tAsg (tOp (rI0 fun i j => .int (i + j)) (tOp (rI CMul fun i j => .int (i * j)) (tCall (sp_law_next K) [] E0 (tCons (tVar 0) (tCons (tC (.int 10000000)) tNil))) (tC (.int 1000000))) (tCall (sp_law_next K) [] E0 (tCons (tVar 0) (tCons (tC (.int 1000000)) tNil)))) (gName 2))
    (tRet (tOp (rI CMul fun i j => .int (i * j)) (tVar 2) (tOp (rI0 fun i j => .int (i - j)) (tC (.int 1)) (tOp (rI CMul fun i j => .int (i * j)) (tC (.int 2)) (tCall (sp_law_next K) [] E0 (tCons (tVar 0) (tCons (tC (.int 2)) tNil))))))))))
theorem run_law_moment {K : PySem.W.Frag} {vs : List V} {H : Hp} {Q : VK} {E : XK} (h : sp_law_moment K vs H Q E) : t_law_moment K (Ends.mk (fun _ H' => Q .non H') Q (fun _ _ => False) (fun _ _ => False)) (start ["_law_state", "_law_small", "_law_far"] vs) H := by
  obtain ⟨l, w, rfl, hl, q⟩ := h
  unfold t_law_moment
  k_ownIn
  kpt_turns
  k_ownIn
  refine ite_d (fun hc => ?_) (fun hc => ?_)
  · k_ownIn
    exact q _ _ _ upd_same (by k_subL)
  · k_ownIn
    exact q _ _ _ upd_same (by k_subL)
theorem len_law_moment {K : PySem.W.Frag} {vs : List V} {H : Hp} {Q : VK} {E : XK} (h : sp_law_moment K vs H Q E) : vs.length = 1 := by
  first | (obtain ⟨rfl, _⟩ := h; rfl) | (obtain ⟨_, rfl, _⟩ := h; rfl) | (obtain ⟨_, _, rfl, _⟩ := h; rfl) | (obtain ⟨_, _, _, rfl, _⟩ := h; rfl) | (obtain ⟨_, _, _, _, rfl, _⟩ := h; rfl) | (obtain ⟨_, _, _, _, _, rfl, _⟩ := h; rfl) | (obtain ⟨_, _, _, _, _, _, rfl, _⟩ := h; rfl) | (obtain ⟨_, _, _, _, _, _, _, rfl, _⟩ := h; rfl) | (obtain ⟨_, _, _, _, _, _, _, _, rfl, _⟩ := h; rfl) | (obtain ⟨_, _, _, _, _, _, _, _, _, rfl, _⟩ := h; rfl) | (obtain ⟨_, _, _, _, _, _, _, _, _, _, rfl, _⟩ := h; rfl) | (obtain ⟨_, _, _, _, _, _, _, _, _, _, _, rfl, _⟩ := h; rfl) | (obtain ⟨_, _, _, _, _, _, _, _, _, _, _, _, rfl, _⟩ := h; rfl) | (obtain ⟨_, _, _, _, _, _, _, _, _, _, _, _, _, rfl, _⟩ := h; rfl)
/-! ### _law_edge -/
def sp_law_edge (K : PySem.W.Frag) : Sp := fun vs H Q _ => ∃ (l : Addr) (w : W3) (m : Int), vs = [.ref l, .int m] ∧ H l = some w.o ∧ 0 < m ∧ m ≤ 1000000000000000000 ∧ ∀ v w' H', 0 ≤ v → v < m → H' l = some (W3.o w') → Kp l H H' → Q (.int v) H'
theorem sp_edge_use {K : PySem.W.Frag} {H : Hp} {Q : VK} {E : XK} {l : Addr} {w : W3} {m : Int} (h : H l = some w.o) (h0 : 0 < m) (h1 : m ≤ 1000000000000000000) (q : ∀ v w' H', 0 ≤ v → v < m → H' l = some (W3.o w') → Kp l H H' → Q (.int v) H') :
    sp_law_edge K [.ref l, .int m] H Q E := ⟨l, w, m, rfl, h, h0, h1, q⟩
local macro_rules | `(tactic| kas_types) => `(tactic| ((with_reducible refine' sp_edge_use ?h ?h0 ?h1 (fun v w' H' l0 l1 hl kp => ?_)); (case h => kcj_m); (case h0 => omega); (case h1 => omega)))
def t_law_edge (K : PySem.W.Frag) : TS :=
  (tSeq (tIfS (tTest (tOp rEq (tCall (sp_law_next K) [] E0 (tCons (tVar 0) (tCons (tC (.int 4)) tNil))) (tC (.int 0)))) (tRet (tOp (rIx K) (tLst (tCons (tC (.int 0)) (tCons (tOp (rI0 fun i j => .int (i - j)) (tVar 1) (tC (.int 1))) tNil))) (tCall (sp_law_next K) [] E0 (tCons (tVar 0) (tCons (tC (.int 2)) tNil))))) tNext)
    (tRet (tCall (sp_law_next K) [] E0 (tCons (tVar 0) (tCons (tVar 1) tNil)))))
theorem run_law_edge {K : PySem.W.Frag} {vs : List V} {H : Hp} {Q : VK} {E : XK} (h : sp_law_edge K vs H Q E) : t_law_edge K (Ends.mk (fun _ H' => Q .non H') Q (fun _ _ => False) (fun _ _ => False)) (start ["_law_state", "_law_many"] vs) H := by
  obtain ⟨l, w, m, rfl, hl, h0, h1, q⟩ := h
  unfold t_law_edge
  k_ownIn
  kpt_turns
  k_ownIn
  refine ite_d (fun hc => ?_) (fun hc => ?_)
  · k_ownIn
    refine r_ixA (fun x => ∃ z : Int, x = .int z ∧ 0 ≤ z ∧ z < m) (by k_places) (by omega) (by simp only [List.length]; omega) ?_ ?_
    · intro x hx
      simp only [List.mem_cons, List.not_mem_nil, or_false] at hx
      rcases hx with rfl | rfl <;> exact ⟨_, rfl, by omega, by omega⟩
    · rintro x ⟨z, rfl, z0, z1⟩
      exact q _ _ _ z0 z1 upd_same (by k_subL)
  · k_ownIn
    exact q _ _ _ (by assumption) (by assumption) upd_same (by k_subL)
theorem len_law_edge {K : PySem.W.Frag} {vs : List V} {H : Hp} {Q : VK} {E : XK} (h : sp_law_edge K vs H Q E) : vs.length = 2 := by
  first | (obtain ⟨rfl, _⟩ := h; rfl) | (obtain ⟨_, rfl, _⟩ := h; rfl) | (obtain ⟨_, _, rfl, _⟩ := h; rfl) | (obtain ⟨_, _, _, rfl, _⟩ := h; rfl) | (obtain ⟨_, _, _, _, rfl, _⟩ := h; rfl) | (obtain ⟨_, _, _, _, _, rfl, _⟩ := h; rfl) | (obtain ⟨_, _, _, _, _, _, rfl, _⟩ := h; rfl) | (obtain ⟨_, _, _, _, _, _, _, rfl, _⟩ := h; rfl) | (obtain ⟨_, _, _, _, _, _, _, _, rfl, _⟩ := h; rfl) | (obtain ⟨_, _, _, _, _, _, _, _, _, rfl, _⟩ := h; rfl) | (obtain ⟨_, _, _, _, _, _, _, _, _, _, rfl, _⟩ := h; rfl) | (obtain ⟨_, _, _, _, _, _, _, _, _, _, _, rfl, _⟩ := h; rfl) | (obtain ⟨_, _, _, _, _, _, _, _, _, _, _, _, rfl, _⟩ := h; rfl) | (obtain ⟨_, _, _, _, _, _, _, _, _, _, _, _, _, rfl, _⟩ := h; rfl)
/-! ### is_whole -/
def sp_is_whole (K : PySem.W.Frag) : Sp := fun vs H Q _ => ∃ (k : Kd), vs = [k.v] ∧ k.typ H ∧ Q (.bl (k.whole)) H
theorem sp_whole_kd {K : PySem.W.Frag} {H : Hp} {Q : VK} {E : XK} (k : Kd) (h : k.typ H) (q : Q (.bl (k.whole)) H) : sp_is_whole K [k.v] H Q E := ⟨k, rfl, h, q⟩
def t_is_whole (K : PySem.W.Frag) : TS :=
  (tRet (tAndV (tCB (rIsi K) (tCons (tVar 0) (tCons (tC (.ty "int")) tNil))) (tNotV (tCB (rIsi K) (tCons (tVar 0) (tCons (tC (.ty "bool")) tNil))))))
theorem run_is_whole {K : PySem.W.Frag} {vs : List V} {H : Hp} {Q : VK} {E : XK} (h : sp_is_whole K vs H Q E) : t_is_whole K (Ends.mk (fun _ H' => Q .non H') Q (fun _ _ => False) (fun _ _ => False)) (start ["thing"] vs) H := by
  obtain ⟨k, rfl, ty, q⟩ := h
  unfold t_is_whole
  k_ownIn
  refine r_isi (Kd.tyx ty) (kitB_int k) ?_
  cases k with
  | _ =>
    k_ownIn
    exact q
theorem len_is_whole {K : PySem.W.Frag} {vs : List V} {H : Hp} {Q : VK} {E : XK} (h : sp_is_whole K vs H Q E) : vs.length = 1 := by
  first | (obtain ⟨rfl, _⟩ := h; rfl) | (obtain ⟨_, rfl, _⟩ := h; rfl) | (obtain ⟨_, _, rfl, _⟩ := h; rfl) | (obtain ⟨_, _, _, rfl, _⟩ := h; rfl) | (obtain ⟨_, _, _, _, rfl, _⟩ := h; rfl) | (obtain ⟨_, _, _, _, _, rfl, _⟩ := h; rfl) | (obtain ⟨_, _, _, _, _, _, rfl, _⟩ := h; rfl) | (obtain ⟨_, _, _, _, _, _, _, rfl, _⟩ := h; rfl) | (obtain ⟨_, _, _, _, _, _, _, _, rfl, _⟩ := h; rfl) | (obtain ⟨_, _, _, _, _, _, _, _, _, rfl, _⟩ := h; rfl) | (obtain ⟨_, _, _, _, _, _, _, _, _, _, rfl, _⟩ := h; rfl) | (obtain ⟨_, _, _, _, _, _, _, _, _, _, _, rfl, _⟩ := h; rfl) | (obtain ⟨_, _, _, _, _, _, _, _, _, _, _, _, rfl, _⟩ := h; rfl) | (obtain ⟨_, _, _, _, _, _, _, _, _, _, _, _, _, rfl, _⟩ := h; rfl)
/-! ### is_between -/
def sp_is_between (K : PySem.W.Frag) : Sp := fun vs H Q _ => ∃ (k : Kd) (lo hi : Int), vs = [k.v, .int lo, .int hi] ∧ k.typ H ∧ Q (.bl (btwV lo hi k.v)) H
theorem sp_between_kd {K : PySem.W.Frag} {H : Hp} {Q : VK} {E : XK} {lo hi : Int} (k : Kd) (h : k.typ H) (q : Q (.bl (btwV lo hi k.v)) H) : sp_is_between K [k.v, .int lo, .int hi] H Q E := ⟨k, lo, hi, rfl, h, q⟩
def t_is_between (K : PySem.W.Frag) : TS :=
  (tRet (tAndV (tCall (sp_is_whole K) [] E0 (tCons (tVar 0) tNil)) (tChain (rI0 fun i j => .bl (decide (i ≤ j))) (rI0 fun i j => .bl (decide (i ≤ j))) (tVar 1) (tVar 0) (tVar 2))))
theorem run_is_between {K : PySem.W.Frag} {vs : List V} {H : Hp} {Q : VK} {E : XK} (h : sp_is_between K vs H Q E) : t_is_between K (Ends.mk (fun _ H' => Q .non H') Q (fun _ _ => False) (fun _ _ => False)) (start ["thing", "low", "high"] vs) H := by
  obtain ⟨k, lo, hi, rfl, ty, q⟩ := h
  unfold t_is_between
  k_ownIn
  refine sp_whole_kd k ty ?_
  cases k with
  | int i =>
    dsimp only [Kd.whole, Kd.v]
    dsimp only [Kd.v] at q
    k_ownIn
    refine ite_d (fun h1 => ?_) (fun h1 => ?_)
    · k_ownIn
      refine q_bl ?_ q
      show decide (lo ≤ i ∧ i ≤ hi) = decide (i ≤ hi)
      simp [h1]
    · refine q_bl ?_ q
      show decide (lo ≤ i ∧ i ≤ hi) = false
      simp [h1]
  | _ =>
    dsimp only [Kd.whole]
    k_ownIn
    exact q
theorem len_is_between {K : PySem.W.Frag} {vs : List V} {H : Hp} {Q : VK} {E : XK} (h : sp_is_between K vs H Q E) : vs.length = 3 := by
  first | (obtain ⟨rfl, _⟩ := h; rfl) | (obtain ⟨_, rfl, _⟩ := h; rfl) | (obtain ⟨_, _, rfl, _⟩ := h; rfl) | (obtain ⟨_, _, _, rfl, _⟩ := h; rfl) | (obtain ⟨_, _, _, _, rfl, _⟩ := h; rfl) | (obtain ⟨_, _, _, _, _, rfl, _⟩ := h; rfl) | (obtain ⟨_, _, _, _, _, _, rfl, _⟩ := h; rfl) | (obtain ⟨_, _, _, _, _, _, _, rfl, _⟩ := h; rfl) | (obtain ⟨_, _, _, _, _, _, _, _, rfl, _⟩ := h; rfl) | (obtain ⟨_, _, _, _, _, _, _, _, _, rfl, _⟩ := h; rfl) | (obtain ⟨_, _, _, _, _, _, _, _, _, _, rfl, _⟩ := h; rfl) | (obtain ⟨_, _, _, _, _, _, _, _, _, _, _, rfl, _⟩ := h; rfl) | (obtain ⟨_, _, _, _, _, _, _, _, _, _, _, _, rfl, _⟩ := h; rfl) | (obtain ⟨_, _, _, _, _, _, _, _, _, _, _, _, _, rfl, _⟩ := h; rfl)
/-! ### sure_minute -/
def sp_sure_minute (K : PySem.W.Frag) : Sp := fun vs H Q E => ∃ (k : Kd) (m : Int), vs = [k.v, .int m] ∧ k.typ H ∧ (∀ z, intOf 0 (m - 1) k = some z → Q .non H) ∧ (intOf 0 (m - 1) k = none → E (.ref (ga K "NoClock")) none H)
theorem sp_sure_minute_kd {K : PySem.W.Frag} {H : Hp} {Q : VK} {E : XK} {m : Int} (k : Kd) (h : k.typ H) (q : ∀ z, intOf 0 (m - 1) k = some z → Q .non H) (b : intOf 0 (m - 1) k = none → E (.ref (ga K "NoClock")) none H) : sp_sure_minute K [k.v, .int m] H Q E := ⟨k, m, rfl, h, q, b⟩
def t_sure_minute (K : PySem.W.Frag) (E : XK) : TS :=
  (tIfS (tNot (tB (tCall (sp_is_between K) [] E0 (tCons (tVar 0) (tCons (tC (.int 0)) (tCons (tOp (rI0 fun i j => .int (i - j)) (tVar 1) (tC (.int 1))) tNil)))))) (tRaise E (ga K "NoClock")) tNext)
theorem run_sure_minute {K : PySem.W.Frag} {vs : List V} {H : Hp} {Q : VK} {E : XK} (h : sp_sure_minute K vs H Q E) : t_sure_minute K E (Ends.mk (fun _ H' => Q .non H') Q (fun _ _ => False) (fun _ _ => False)) (start ["minute", "many"] vs) H := by
  obtain ⟨k, m, rfl, ty, q, qb⟩ := h
  unfold t_sure_minute
  kpt_turns
  k_ownIn
  refine sp_between_kd k ty ?_
  k_ownIn
  have e := btw_intOf (lo := 0) (hi := m - 1) k
  cases hz : intOf 0 (m - 1) k with
  | none =>
    have e2 : btwV 0 (m - 1) k.v = false := by rw [e, hz]; rfl
    rw [e2]
    refine ite_nf ?_
    exact r_raise (qb hz)
  | some z =>
    have e2 : btwV 0 (m - 1) k.v = true := by rw [e, hz]; rfl
    rw [e2]
    k_ownIn
    exact q z hz
theorem len_sure_minute {K : PySem.W.Frag} {vs : List V} {H : Hp} {Q : VK} {E : XK} (h : sp_sure_minute K vs H Q E) : vs.length = 2 := by
  first | (obtain ⟨rfl, _⟩ := h; rfl) | (obtain ⟨_, rfl, _⟩ := h; rfl) | (obtain ⟨_, _, rfl, _⟩ := h; rfl) | (obtain ⟨_, _, _, rfl, _⟩ := h; rfl) | (obtain ⟨_, _, _, _, rfl, _⟩ := h; rfl) | (obtain ⟨_, _, _, _, _, rfl, _⟩ := h; rfl) | (obtain ⟨_, _, _, _, _, _, rfl, _⟩ := h; rfl) | (obtain ⟨_, _, _, _, _, _, _, rfl, _⟩ := h; rfl) | (obtain ⟨_, _, _, _, _, _, _, _, rfl, _⟩ := h; rfl) | (obtain ⟨_, _, _, _, _, _, _, _, _, rfl, _⟩ := h; rfl) | (obtain ⟨_, _, _, _, _, _, _, _, _, _, rfl, _⟩ := h; rfl) | (obtain ⟨_, _, _, _, _, _, _, _, _, _, _, rfl, _⟩ := h; rfl) | (obtain ⟨_, _, _, _, _, _, _, _, _, _, _, _, rfl, _⟩ := h; rfl) | (obtain ⟨_, _, _, _, _, _, _, _, _, _, _, _, _, rfl, _⟩ := h; rfl)
/-! ### sure_zone -/
def sp_sure_zone (K : PySem.W.Frag) : Sp := fun vs H Q E => ∃ (k : Kd), vs = [k.v] ∧ k.typ H ∧ (∀ z, zoneOf k = some z → Q .non H) ∧ (zoneOf k = none → E (.ref (ga K "NoClock")) none H)
theorem sp_sure_zone_kd {K : PySem.W.Frag} {H : Hp} {Q : VK} {E : XK} (k : Kd) (h : k.typ H) (q : ∀ z, zoneOf k = some z → Q .non H) (b : zoneOf k = none → E (.ref (ga K "NoClock")) none H) : sp_sure_zone K [k.v] H Q E := ⟨k, rfl, h, q, b⟩
def t_sure_zone (K : PySem.W.Frag) (E : XK) : TS :=
  (tIfS (tNot (tB (tCall (sp_is_between K) [] E0 (tCons (tVar 0) (tCons (tOp (rI0 fun i j => .int (i - j)) (tC (.int 1)) (tC (.int 1440))) (tCons (tOp (rI0 fun i j => .int (i - j)) (tC (.int 1440)) (tC (.int 1))) tNil)))))) (tRaise E (ga K "NoClock")) tNext)
theorem run_sure_zone {K : PySem.W.Frag} {vs : List V} {H : Hp} {Q : VK} {E : XK} (h : sp_sure_zone K vs H Q E) : t_sure_zone K E (Ends.mk (fun _ H' => Q .non H') Q (fun _ _ => False) (fun _ _ => False)) (start ["zone"] vs) H := by
  obtain ⟨k, rfl, ty, q, qb⟩ := h
  unfold t_sure_zone
  kpt_turns
  k_ownIn
  refine sp_between_kd k ty ?_
  k_ownIn
  have e := btw_intOf (lo := 1 - 1440) (hi := 1440 - 1) k
  cases hz : zoneOf k with
  | none =>
    have e2 : btwV (1 - 1440) (1440 - 1) k.v = false := by rw [e]; show (zoneOf k).isSome = false; rw [hz]; rfl
    rw [e2]
    refine ite_nf ?_
    exact r_raise (qb hz)
  | some z =>
    have e2 : btwV (1 - 1440) (1440 - 1) k.v = true := by rw [e]; show (zoneOf k).isSome = true; rw [hz]; rfl
    rw [e2]
    k_ownIn
    exact q z hz
theorem len_sure_zone {K : PySem.W.Frag} {vs : List V} {H : Hp} {Q : VK} {E : XK} (h : sp_sure_zone K vs H Q E) : vs.length = 1 := by
  first | (obtain ⟨rfl, _⟩ := h; rfl) | (obtain ⟨_, rfl, _⟩ := h; rfl) | (obtain ⟨_, _, rfl, _⟩ := h; rfl) | (obtain ⟨_, _, _, rfl, _⟩ := h; rfl) | (obtain ⟨_, _, _, _, rfl, _⟩ := h; rfl) | (obtain ⟨_, _, _, _, _, rfl, _⟩ := h; rfl) | (obtain ⟨_, _, _, _, _, _, rfl, _⟩ := h; rfl) | (obtain ⟨_, _, _, _, _, _, _, rfl, _⟩ := h; rfl) | (obtain ⟨_, _, _, _, _, _, _, _, rfl, _⟩ := h; rfl) | (obtain ⟨_, _, _, _, _, _, _, _, _, rfl, _⟩ := h; rfl) | (obtain ⟨_, _, _, _, _, _, _, _, _, _, rfl, _⟩ := h; rfl) | (obtain ⟨_, _, _, _, _, _, _, _, _, _, _, rfl, _⟩ := h; rfl) | (obtain ⟨_, _, _, _, _, _, _, _, _, _, _, _, rfl, _⟩ := h; rfl) | (obtain ⟨_, _, _, _, _, _, _, _, _, _, _, _, _, rfl, _⟩ := h; rfl)
/-! ### shown -/
def sp_shown (K : PySem.W.Frag) : Sp := fun vs H Q E => ∃ (m : Int) (k : Kd), vs = [.int m, k.v] ∧ k.typ H ∧ (∀ z, zoneOf k = some z → ∀ p, H p = none → Q (.ref p) (upd H p (.tup [.int ((m + z) / 1440), .int ((m + z) % 1440)]))) ∧ (zoneOf k = none → E (.ref (ga K "NoClock")) none H)
theorem sp_shown_kd {K : PySem.W.Frag} {H : Hp} {Q : VK} {E : XK} {m : Int} (k : Kd) (h : k.typ H) (q : ∀ z, zoneOf k = some z → ∀ p, H p = none → Q (.ref p) (upd H p (.tup [.int ((m + z) / 1440), .int ((m + z) % 1440)]))) (b : zoneOf k = none → E (.ref (ga K "NoClock")) none H) : sp_shown K [.int m, k.v] H Q E := ⟨m, k, rfl, h, q, b⟩
theorem sp_shown_use {K : PySem.W.Frag} {H : Hp} {Q : VK} {E : XK} {m z : Int} (h0 : -1439 ≤ z) (h1 : z ≤ 1439) (q : ∀ p, H p = none → Q (.ref p) (upd H p (.tup [.int ((m + z) / 1440), .int ((m + z) % 1440)]))) : sp_shown K [.int m, .int z] H Q E :=
  ⟨m, .int z, rfl, trivial, fun z' e => by rw [show zoneOf (.int z) = some z from intOf_int h0 h1] at e; cases e; exact q, fun e => by rw [show zoneOf (.int z) = some z from intOf_int h0 h1] at e; cases e⟩
local macro_rules | `(tactic| kas_types) => `(tactic| ((with_reducible refine sp_shown_use ?a ?b ?_); (case a => omega); (case b => omega)))
def t_shown (K : PySem.W.Frag) (E : XK) : TS :=
  (tSeq (tDrop (tCall (sp_sure_zone K) [] E (tCons (tVar 1) tNil)))
    (tRet (tCB rDivmod (tCons (tOp (rI0 fun i j => .int (i + j)) (tVar 0) (tVar 1)) (tCons (tC (.int 1440)) tNil)))))
theorem run_shown {K : PySem.W.Frag} {vs : List V} {H : Hp} {Q : VK} {E : XK} (h : sp_shown K vs H Q E) : t_shown K E (Ends.mk (fun _ H' => Q .non H') Q (fun _ _ => False) (fun _ _ => False)) (start ["moment", "zone"] vs) H := by
  obtain ⟨m, k, rfl, ty, q, qb⟩ := h
  unfold t_shown
  k_ownIn
  refine sp_sure_zone_kd k ty (fun z hz => ?_) qb
  obtain ⟨rfl, z0, z1⟩ := intOf_some hz
  dsimp only [Kd.v]
  k_ownIn
  exact q _ hz _ (by assumption)
theorem len_shown {K : PySem.W.Frag} {vs : List V} {H : Hp} {Q : VK} {E : XK} (h : sp_shown K vs H Q E) : vs.length = 2 := by
  first | (obtain ⟨rfl, _⟩ := h; rfl) | (obtain ⟨_, rfl, _⟩ := h; rfl) | (obtain ⟨_, _, rfl, _⟩ := h; rfl) | (obtain ⟨_, _, _, rfl, _⟩ := h; rfl) | (obtain ⟨_, _, _, _, rfl, _⟩ := h; rfl) | (obtain ⟨_, _, _, _, _, rfl, _⟩ := h; rfl) | (obtain ⟨_, _, _, _, _, _, rfl, _⟩ := h; rfl) | (obtain ⟨_, _, _, _, _, _, _, rfl, _⟩ := h; rfl) | (obtain ⟨_, _, _, _, _, _, _, _, rfl, _⟩ := h; rfl) | (obtain ⟨_, _, _, _, _, _, _, _, _, rfl, _⟩ := h; rfl) | (obtain ⟨_, _, _, _, _, _, _, _, _, _, rfl, _⟩ := h; rfl) | (obtain ⟨_, _, _, _, _, _, _, _, _, _, _, rfl, _⟩ := h; rfl) | (obtain ⟨_, _, _, _, _, _, _, _, _, _, _, _, rfl, _⟩ := h; rfl) | (obtain ⟨_, _, _, _, _, _, _, _, _, _, _, _, _, rfl, _⟩ := h; rfl)
/-! ### next_hour -/
def sp_next_hour (K : PySem.W.Frag) : Sp := fun vs H Q E => ∃ (k kz : Kd) (m : Int), vs = [k.v, kz.v, .int m] ∧ k.typ H ∧ kz.typ H ∧ (∀ n z, intOf 0 59 k = some n → zoneOf kz = some z → ∀ H', Same H H' → Q (.int (m + (n - (m + z) % 1440) % 60)) H') ∧
  (intOf 0 59 k = none ∨ zoneOf kz = none → ∀ H', Same H H' → E (.ref (ga K "NoClock")) none H')
theorem sp_next_hour_kd {K : PySem.W.Frag} {H : Hp} {Q : VK} {E : XK} {m : Int} (k kz : Kd) (h : k.typ H) (hz : kz.typ H) (q : ∀ n z, intOf 0 59 k = some n → zoneOf kz = some z → ∀ H', Same H H' → Q (.int (m + (n - (m + z) % 1440) % 60)) H')
    (b : intOf 0 59 k = none ∨ zoneOf kz = none → ∀ H', Same H H' → E (.ref (ga K "NoClock")) none H') : sp_next_hour K [k.v, kz.v, .int m] H Q E := ⟨k, kz, m, rfl, h, hz, q, b⟩
def t_next_hour (K : PySem.W.Frag) (E : XK) : TS :=
  (tSeq (tDrop (tCall (sp_sure_minute K) [] E (tCons (tVar 0) (tCons (tC (.int 60)) tNil))))
    (tRet (tOp (rI0 fun i j => .int (i + j)) (tVar 2) (tOp (rI (fun _ j => 0 < j) fun i j => .int (i % j)) (tOp (rI0 fun i j => .int (i - j)) (tVar 0) (tOp (rIx K) (tCall (sp_shown K) [] E (tCons (tVar 2) (tCons (tVar 1) tNil))) (tC (.int 1)))) (tC (.int 60))))))
theorem run_next_hour {K : PySem.W.Frag} {vs : List V} {H : Hp} {Q : VK} {E : XK} (h : sp_next_hour K vs H Q E) : t_next_hour K E (Ends.mk (fun _ H' => Q .non H') Q (fun _ _ => False) (fun _ _ => False)) (start ["minute", "zone", "moment"] vs) H := by
  obtain ⟨k, kz, m, rfl, ok, tz, q, qb⟩ := h
  unfold t_next_hour
  k_ownIn
  refine sp_sure_minute_kd k ok (fun n hn => ?_) (fun hb => qb (.inl hb) H (Same.refl _))
  have q := q n
  have hn2 := intOf_some hn
  obtain ⟨rfl, n0, n1⟩ := hn2
  dsimp only [Kd.v]
  k_ownIn
  refine sp_shown_kd kz tz (fun z hz p hp => ?_) (fun hb => qb (.inr hb) H (Same.refl _))
  have q := q z hn hz
  k_ownIn
  exact q _ (by k_subL)
theorem len_next_hour {K : PySem.W.Frag} {vs : List V} {H : Hp} {Q : VK} {E : XK} (h : sp_next_hour K vs H Q E) : vs.length = 3 := by
  first | (obtain ⟨rfl, _⟩ := h; rfl) | (obtain ⟨_, rfl, _⟩ := h; rfl) | (obtain ⟨_, _, rfl, _⟩ := h; rfl) | (obtain ⟨_, _, _, rfl, _⟩ := h; rfl) | (obtain ⟨_, _, _, _, rfl, _⟩ := h; rfl) | (obtain ⟨_, _, _, _, _, rfl, _⟩ := h; rfl) | (obtain ⟨_, _, _, _, _, _, rfl, _⟩ := h; rfl) | (obtain ⟨_, _, _, _, _, _, _, rfl, _⟩ := h; rfl) | (obtain ⟨_, _, _, _, _, _, _, _, rfl, _⟩ := h; rfl) | (obtain ⟨_, _, _, _, _, _, _, _, _, rfl, _⟩ := h; rfl) | (obtain ⟨_, _, _, _, _, _, _, _, _, _, rfl, _⟩ := h; rfl) | (obtain ⟨_, _, _, _, _, _, _, _, _, _, _, rfl, _⟩ := h; rfl) | (obtain ⟨_, _, _, _, _, _, _, _, _, _, _, _, rfl, _⟩ := h; rfl) | (obtain ⟨_, _, _, _, _, _, _, _, _, _, _, _, _, rfl, _⟩ := h; rfl)
/-! ### Hour.__init__ -/
def sp_Hour_init (K : PySem.W.Frag) : Sp := fun vs H Q E => ∃ (x dx : Addr) (k : Kd), vs = [.ref x, k.v] ∧ H x = some (.ins (ga K "Hour") dx []) ∧ k.typ H ∧ (∀ n, intOf 0 59 k = some n → ∀ H', Kp x H H' → H' x = some (.ins (ga K "Hour") dx [("minute", .int n)]) → Q .non H') ∧
  (intOf 0 59 k = none → ∀ H', Same H H' → E (.ref (ga K "NoClock")) none H')
theorem sp_Hour_kd {K : PySem.W.Frag} {H : Hp} {Q : VK} {E : XK} {x dx : Addr} (k : Kd) (hx : H x = some (.ins (ga K "Hour") dx [])) (t : k.typ H) (q : ∀ n, intOf 0 59 k = some n → ∀ H', Kp x H H' → H' x = some (.ins (ga K "Hour") dx [("minute", .int n)]) → Q .non H')
  (b : intOf 0 59 k = none → ∀ H', Same H H' → E (.ref (ga K "NoClock")) none H') : sp_Hour_init K [.ref x, k.v] H Q E := ⟨x, dx, k, rfl, hx, t, q, b⟩
def t_Hour_init (K : PySem.W.Frag) (E : XK) : TS :=
  (tSeq (tDrop (tCall (sp_next_hour K) [] E (tCons (tVar 1) (tCons (tC (.int 0)) (tCons (tC (.int 0)) tNil)))))
    (sFld K (tVar 0) (tVar 1) "minute"))
theorem run_Hour_init {K : PySem.W.Frag} {vs : List V} {H : Hp} {Q : VK} {E : XK} (h : sp_Hour_init K vs H Q E) (c_Hour : Cls K (ga K "Hour")) (n_Hour_minute : NoAttr K (ga K "Hour") "minute") : t_Hour_init K E (Ends.mk (fun _ H' => Q .non H') Q (fun _ _ => False) (fun _ _ => False)) (start ["self", "minute"] vs) H := by
  obtain ⟨x, dx, k, rfl, hx, t, q, b⟩ := h
  unfold t_Hour_init
  k_ownIn
  refine sp_next_hour_kd k (.int 0) t trivial (fun n z hn hz H1 s1 => ?_) (fun hb H1 s1 => b (hb.resolve_right (fun z => by cases z)) H1 s1)
  obtain ⟨rfl, n0, n1⟩ := intOf_some hn
  dsimp only [Kd.v]
  k_ownIn
  exact q _ hn _ (by k_subL) upd_same
theorem len_Hour_init {K : PySem.W.Frag} {vs : List V} {H : Hp} {Q : VK} {E : XK} (h : sp_Hour_init K vs H Q E) : vs.length = 2 := by
  first | (obtain ⟨rfl, _⟩ := h; rfl) | (obtain ⟨_, rfl, _⟩ := h; rfl) | (obtain ⟨_, _, rfl, _⟩ := h; rfl) | (obtain ⟨_, _, _, rfl, _⟩ := h; rfl) | (obtain ⟨_, _, _, _, rfl, _⟩ := h; rfl) | (obtain ⟨_, _, _, _, _, rfl, _⟩ := h; rfl) | (obtain ⟨_, _, _, _, _, _, rfl, _⟩ := h; rfl) | (obtain ⟨_, _, _, _, _, _, _, rfl, _⟩ := h; rfl) | (obtain ⟨_, _, _, _, _, _, _, _, rfl, _⟩ := h; rfl) | (obtain ⟨_, _, _, _, _, _, _, _, _, rfl, _⟩ := h; rfl) | (obtain ⟨_, _, _, _, _, _, _, _, _, _, rfl, _⟩ := h; rfl) | (obtain ⟨_, _, _, _, _, _, _, _, _, _, _, rfl, _⟩ := h; rfl) | (obtain ⟨_, _, _, _, _, _, _, _, _, _, _, _, rfl, _⟩ := h; rfl) | (obtain ⟨_, _, _, _, _, _, _, _, _, _, _, _, _, rfl, _⟩ := h; rfl)
/-! ### next_day -/
def sp_next_day (K : PySem.W.Frag) : Sp := fun vs H Q E => ∃ (k kz : Kd) (m : Int), vs = [k.v, kz.v, .int m] ∧ k.typ H ∧ kz.typ H ∧ (∀ n z, intOf 0 1439 k = some n → zoneOf kz = some z → ∀ H', Same H H' → Q (.int (m + (n - (m + z) % 1440) % 1440)) H') ∧
  (intOf 0 1439 k = none ∨ zoneOf kz = none → ∀ H', Same H H' → E (.ref (ga K "NoClock")) none H')
theorem sp_next_day_kd {K : PySem.W.Frag} {H : Hp} {Q : VK} {E : XK} {m : Int} (k kz : Kd) (h : k.typ H) (hz : kz.typ H) (q : ∀ n z, intOf 0 1439 k = some n → zoneOf kz = some z → ∀ H', Same H H' → Q (.int (m + (n - (m + z) % 1440) % 1440)) H')
    (b : intOf 0 1439 k = none ∨ zoneOf kz = none → ∀ H', Same H H' → E (.ref (ga K "NoClock")) none H') : sp_next_day K [k.v, kz.v, .int m] H Q E := ⟨k, kz, m, rfl, h, hz, q, b⟩
def t_next_day (K : PySem.W.Frag) (E : XK) : TS :=
  (tSeq (tDrop (tCall (sp_sure_minute K) [] E (tCons (tVar 0) (tCons (tC (.int 1440)) tNil))))
    (tRet (tOp (rI0 fun i j => .int (i + j)) (tVar 2) (tOp (rI (fun _ j => 0 < j) fun i j => .int (i % j)) (tOp (rI0 fun i j => .int (i - j)) (tVar 0) (tOp (rIx K) (tCall (sp_shown K) [] E (tCons (tVar 2) (tCons (tVar 1) tNil))) (tC (.int 1)))) (tC (.int 1440))))))
theorem run_next_day {K : PySem.W.Frag} {vs : List V} {H : Hp} {Q : VK} {E : XK} (h : sp_next_day K vs H Q E) : t_next_day K E (Ends.mk (fun _ H' => Q .non H') Q (fun _ _ => False) (fun _ _ => False)) (start ["minute", "zone", "moment"] vs) H := by
  obtain ⟨k, kz, m, rfl, ok, tz, q, qb⟩ := h
  unfold t_next_day
  k_ownIn
  refine sp_sure_minute_kd k ok (fun n hn => ?_) (fun hb => qb (.inl hb) H (Same.refl _))
  have q := q n
  have hn2 := intOf_some hn
  obtain ⟨rfl, n0, n1⟩ := hn2
  dsimp only [Kd.v]
  k_ownIn
  refine sp_shown_kd kz tz (fun z hz p hp => ?_) (fun hb => qb (.inr hb) H (Same.refl _))
  have q := q z hn hz
  k_ownIn
  exact q _ (by k_subL)
theorem len_next_day {K : PySem.W.Frag} {vs : List V} {H : Hp} {Q : VK} {E : XK} (h : sp_next_day K vs H Q E) : vs.length = 3 := by
  first | (obtain ⟨rfl, _⟩ := h; rfl) | (obtain ⟨_, rfl, _⟩ := h; rfl) | (obtain ⟨_, _, rfl, _⟩ := h; rfl) | (obtain ⟨_, _, _, rfl, _⟩ := h; rfl) | (obtain ⟨_, _, _, _, rfl, _⟩ := h; rfl) | (obtain ⟨_, _, _, _, _, rfl, _⟩ := h; rfl) | (obtain ⟨_, _, _, _, _, _, rfl, _⟩ := h; rfl) | (obtain ⟨_, _, _, _, _, _, _, rfl, _⟩ := h; rfl) | (obtain ⟨_, _, _, _, _, _, _, _, rfl, _⟩ := h; rfl) | (obtain ⟨_, _, _, _, _, _, _, _, _, rfl, _⟩ := h; rfl) | (obtain ⟨_, _, _, _, _, _, _, _, _, _, rfl, _⟩ := h; rfl) | (obtain ⟨_, _, _, _, _, _, _, _, _, _, _, rfl, _⟩ := h; rfl) | (obtain ⟨_, _, _, _, _, _, _, _, _, _, _, _, rfl, _⟩ := h; rfl) | (obtain ⟨_, _, _, _, _, _, _, _, _, _, _, _, _, rfl, _⟩ := h; rfl)
/-! ### Day.__init__ -/
def sp_Day_init (K : PySem.W.Frag) : Sp := fun vs H Q E => ∃ (x dx : Addr) (k : Kd), vs = [.ref x, k.v] ∧ H x = some (.ins (ga K "Day") dx []) ∧ k.typ H ∧ (∀ n, intOf 0 1439 k = some n → ∀ H', Kp x H H' → H' x = some (.ins (ga K "Day") dx [("minute", .int n)]) → Q .non H') ∧
  (intOf 0 1439 k = none → ∀ H', Same H H' → E (.ref (ga K "NoClock")) none H')
theorem sp_Day_kd {K : PySem.W.Frag} {H : Hp} {Q : VK} {E : XK} {x dx : Addr} (k : Kd) (hx : H x = some (.ins (ga K "Day") dx [])) (t : k.typ H) (q : ∀ n, intOf 0 1439 k = some n → ∀ H', Kp x H H' → H' x = some (.ins (ga K "Day") dx [("minute", .int n)]) → Q .non H')
  (b : intOf 0 1439 k = none → ∀ H', Same H H' → E (.ref (ga K "NoClock")) none H') : sp_Day_init K [.ref x, k.v] H Q E := ⟨x, dx, k, rfl, hx, t, q, b⟩
def t_Day_init (K : PySem.W.Frag) (E : XK) : TS :=
  (tSeq (tDrop (tCall (sp_next_day K) [] E (tCons (tVar 1) (tCons (tC (.int 0)) (tCons (tC (.int 0)) tNil)))))
    (sFld K (tVar 0) (tVar 1) "minute"))
theorem run_Day_init {K : PySem.W.Frag} {vs : List V} {H : Hp} {Q : VK} {E : XK} (h : sp_Day_init K vs H Q E) (c_Day : Cls K (ga K "Day")) (n_Day_minute : NoAttr K (ga K "Day") "minute") : t_Day_init K E (Ends.mk (fun _ H' => Q .non H') Q (fun _ _ => False) (fun _ _ => False)) (start ["self", "minute"] vs) H := by
  obtain ⟨x, dx, k, rfl, hx, t, q, b⟩ := h
  unfold t_Day_init
  k_ownIn
  refine sp_next_day_kd k (.int 0) t trivial (fun n z hn hz H1 s1 => ?_) (fun hb H1 s1 => b (hb.resolve_right (fun z => by cases z)) H1 s1)
  obtain ⟨rfl, n0, n1⟩ := intOf_some hn
  dsimp only [Kd.v]
  k_ownIn
  exact q _ hn _ (by k_subL) upd_same
theorem len_Day_init {K : PySem.W.Frag} {vs : List V} {H : Hp} {Q : VK} {E : XK} (h : sp_Day_init K vs H Q E) : vs.length = 2 := by
  first | (obtain ⟨rfl, _⟩ := h; rfl) | (obtain ⟨_, rfl, _⟩ := h; rfl) | (obtain ⟨_, _, rfl, _⟩ := h; rfl) | (obtain ⟨_, _, _, rfl, _⟩ := h; rfl) | (obtain ⟨_, _, _, _, rfl, _⟩ := h; rfl) | (obtain ⟨_, _, _, _, _, rfl, _⟩ := h; rfl) | (obtain ⟨_, _, _, _, _, _, rfl, _⟩ := h; rfl) | (obtain ⟨_, _, _, _, _, _, _, rfl, _⟩ := h; rfl) | (obtain ⟨_, _, _, _, _, _, _, _, rfl, _⟩ := h; rfl) | (obtain ⟨_, _, _, _, _, _, _, _, _, rfl, _⟩ := h; rfl) | (obtain ⟨_, _, _, _, _, _, _, _, _, _, rfl, _⟩ := h; rfl) | (obtain ⟨_, _, _, _, _, _, _, _, _, _, _, rfl, _⟩ := h; rfl) | (obtain ⟨_, _, _, _, _, _, _, _, _, _, _, _, rfl, _⟩ := h; rfl) | (obtain ⟨_, _, _, _, _, _, _, _, _, _, _, _, _, rfl, _⟩ := h; rfl)
/-! ### _law_kinds -/
def kindsL (i : Nat) : List V := [.bl (decide (i = 0)), .bl (decide (i = 1)), .bl (decide (i = 2)), .bl (decide (i = 3)), .bl true]
def sp_law_kinds (K : PySem.W.Frag) : Sp := fun vs H Q _ => ∃ (v : V) (n o : Int) (i : Nat), vs = [v] ∧ WayAt K H n o i v ∧ ∀ p H', H p = none → H' p = some (.lst (kindsL i)) → Same H H' → Q (.ref p) H'
theorem sp_kinds_kd {K : PySem.W.Frag} {H : Hp} {Q : VK} {E : XK} {v : V} {n o : Int} {i : Nat} (h : WayAt K H n o i v) (q : ∀ p H', H p = none → H' p = some (.lst (kindsL i)) → Same H H' → Q (.ref p) H') : sp_law_kinds K [v] H Q E := ⟨v, n, o, i, rfl, h, q⟩
def t_law_kinds (K : PySem.W.Frag) : TS :=
  (tSeq (tAsg (tLst (tCons (tCB (rIsi K) (tCons (tVar 0) (tCons (tC (.ref (ga K "Now"))) tNil))) (tCons (tCB (rIsi K) (tCons (tVar 0) (tCons (tC (.ref (ga K "Hour"))) tNil))) (tCons (tCB (rIsi K) (tCons (tVar 0) (tCons (tC (.ref (ga K "Day"))) tNil))) (tCons (tCB (rIsi K) (tCons (tVar 0) (tCons (tC (.ref (ga K "Never"))) tNil))) tNil))))) (gName 1))
    (tRet (tOp rCat (tVar 1) (tLst (tCons (tCB (rIsi K) (tCons (tVar 0) (tCons (tC (.ref (ga K "Way"))) tNil))) tNil)))))
theorem run_law_kinds {K : PySem.W.Frag} {vs : List V} {H : Hp} {Q : VK} {E : XK} (h : sp_law_kinds K vs H Q E) (hx : xf_law_kinds K = true) (i_Now : InsT K (ga K "Now")) (i_Hour : InsT K (ga K "Hour")) (i_Day : InsT K (ga K "Day")) (i_Never : InsT K (ga K "Never")) : t_law_kinds K (Ends.mk (fun _ H' => Q .non H') Q (fun _ _ => False) (fun _ _ => False)) (start ["_law_way", "_law_found"] vs) H := by
  obtain ⟨v, n, o, i, rfl, hw, q⟩ := h
  obtain ⟨k_Now_Now, hx⟩ := b2 hx
  obtain ⟨k_Now_Hour, hx⟩ := b2 hx
  obtain ⟨k_Now_Day, hx⟩ := b2 hx
  obtain ⟨k_Now_Never, hx⟩ := b2 hx
  obtain ⟨k_Now_Way, hx⟩ := b2 hx
  obtain ⟨k_Hour_Now, hx⟩ := b2 hx
  obtain ⟨k_Hour_Hour, hx⟩ := b2 hx
  obtain ⟨k_Hour_Day, hx⟩ := b2 hx
  obtain ⟨k_Hour_Never, hx⟩ := b2 hx
  obtain ⟨k_Hour_Way, hx⟩ := b2 hx
  obtain ⟨k_Day_Now, hx⟩ := b2 hx
  obtain ⟨k_Day_Hour, hx⟩ := b2 hx
  obtain ⟨k_Day_Day, hx⟩ := b2 hx
  obtain ⟨k_Day_Never, hx⟩ := b2 hx
  obtain ⟨k_Day_Way, hx⟩ := b2 hx
  obtain ⟨k_Never_Now, hx⟩ := b2 hx
  obtain ⟨k_Never_Hour, hx⟩ := b2 hx
  obtain ⟨k_Never_Day, hx⟩ := b2 hx
  obtain ⟨k_Never_Never, hx⟩ := b2 hx
  have k_Never_Way := hx
  have k_Now_Now := of_decide_eq_true k_Now_Now
  have k_Now_Hour := of_decide_eq_true k_Now_Hour
  have k_Now_Day := of_decide_eq_true k_Now_Day
  have k_Now_Never := of_decide_eq_true k_Now_Never
  have k_Now_Way := of_decide_eq_true k_Now_Way
  have k_Hour_Now := of_decide_eq_true k_Hour_Now
  have k_Hour_Hour := of_decide_eq_true k_Hour_Hour
  have k_Hour_Day := of_decide_eq_true k_Hour_Day
  have k_Hour_Never := of_decide_eq_true k_Hour_Never
  have k_Hour_Way := of_decide_eq_true k_Hour_Way
  have k_Day_Now := of_decide_eq_true k_Day_Now
  have k_Day_Hour := of_decide_eq_true k_Day_Hour
  have k_Day_Day := of_decide_eq_true k_Day_Day
  have k_Day_Never := of_decide_eq_true k_Day_Never
  have k_Day_Way := of_decide_eq_true k_Day_Way
  have k_Never_Now := of_decide_eq_true k_Never_Now
  have k_Never_Hour := of_decide_eq_true k_Never_Hour
  have k_Never_Day := of_decide_eq_true k_Never_Day
  have k_Never_Never := of_decide_eq_true k_Never_Never
  have k_Never_Way := of_decide_eq_true k_Never_Way
  unfold t_law_kinds
  cases hw with
  | now hw =>
    k_ownIn
    rename_i e1 p2 e2 p e
    exact q p _ (upd_none (upd_none e)) upd_same (by k_subL)
  | hour hw h0 h1 =>
    k_ownIn
    rename_i e1 p2 e2 p e
    exact q p _ (upd_none (upd_none e)) upd_same (by k_subL)
  | day hw h0 h1 =>
    k_ownIn
    rename_i e1 p2 e2 p e
    exact q p _ (upd_none (upd_none e)) upd_same (by k_subL)
  | never hw =>
    k_ownIn
    rename_i e1 p2 e2 p e
    exact q p _ (upd_none (upd_none e)) upd_same (by k_subL)
theorem len_law_kinds {K : PySem.W.Frag} {vs : List V} {H : Hp} {Q : VK} {E : XK} (h : sp_law_kinds K vs H Q E) : vs.length = 1 := by
  first | (obtain ⟨rfl, _⟩ := h; rfl) | (obtain ⟨_, rfl, _⟩ := h; rfl) | (obtain ⟨_, _, rfl, _⟩ := h; rfl) | (obtain ⟨_, _, _, rfl, _⟩ := h; rfl) | (obtain ⟨_, _, _, _, rfl, _⟩ := h; rfl) | (obtain ⟨_, _, _, _, _, rfl, _⟩ := h; rfl) | (obtain ⟨_, _, _, _, _, _, rfl, _⟩ := h; rfl) | (obtain ⟨_, _, _, _, _, _, _, rfl, _⟩ := h; rfl) | (obtain ⟨_, _, _, _, _, _, _, _, rfl, _⟩ := h; rfl) | (obtain ⟨_, _, _, _, _, _, _, _, _, rfl, _⟩ := h; rfl) | (obtain ⟨_, _, _, _, _, _, _, _, _, _, rfl, _⟩ := h; rfl) | (obtain ⟨_, _, _, _, _, _, _, _, _, _, _, rfl, _⟩ := h; rfl) | (obtain ⟨_, _, _, _, _, _, _, _, _, _, _, _, rfl, _⟩ := h; rfl) | (obtain ⟨_, _, _, _, _, _, _, _, _, _, _, _, _, rfl, _⟩ := h; rfl)
/-! ### Way.is_gathered -/
def sp_Way_is_gathered (K : PySem.W.Frag) : Sp := fun vs H Q _ => ∃ a : Addr, vs = [.ref a] ∧ Q (.bl false) H
theorem sp_Way_gath {K : PySem.W.Frag} {H : Hp} {Q : VK} {E : XK} {a : Addr} (q : Q (.bl false) H) : sp_Way_is_gathered K [.ref a] H Q E := ⟨a, rfl, q⟩
local macro_rules | `(tactic| kas_types) => `(tactic| (with_reducible refine sp_Way_gath ?_))
def t_Way_is_gathered (K : PySem.W.Frag) : TS :=
  (tRet (tC (.bl false)))
theorem run_Way_is_gathered {K : PySem.W.Frag} {vs : List V} {H : Hp} {Q : VK} {E : XK} (h : sp_Way_is_gathered K vs H Q E) : t_Way_is_gathered K (Ends.mk (fun _ H' => Q .non H') Q (fun _ _ => False) (fun _ _ => False)) (start ["self"] vs) H := by
  obtain ⟨a, rfl, q⟩ := h
  unfold t_Way_is_gathered
  k_ownIn
  exact q
theorem len_Way_is_gathered {K : PySem.W.Frag} {vs : List V} {H : Hp} {Q : VK} {E : XK} (h : sp_Way_is_gathered K vs H Q E) : vs.length = 1 := by
  first | (obtain ⟨rfl, _⟩ := h; rfl) | (obtain ⟨_, rfl, _⟩ := h; rfl) | (obtain ⟨_, _, rfl, _⟩ := h; rfl) | (obtain ⟨_, _, _, rfl, _⟩ := h; rfl) | (obtain ⟨_, _, _, _, rfl, _⟩ := h; rfl) | (obtain ⟨_, _, _, _, _, rfl, _⟩ := h; rfl) | (obtain ⟨_, _, _, _, _, _, rfl, _⟩ := h; rfl) | (obtain ⟨_, _, _, _, _, _, _, rfl, _⟩ := h; rfl) | (obtain ⟨_, _, _, _, _, _, _, _, rfl, _⟩ := h; rfl) | (obtain ⟨_, _, _, _, _, _, _, _, _, rfl, _⟩ := h; rfl) | (obtain ⟨_, _, _, _, _, _, _, _, _, _, rfl, _⟩ := h; rfl) | (obtain ⟨_, _, _, _, _, _, _, _, _, _, _, rfl, _⟩ := h; rfl) | (obtain ⟨_, _, _, _, _, _, _, _, _, _, _, _, rfl, _⟩ := h; rfl) | (obtain ⟨_, _, _, _, _, _, _, _, _, _, _, _, _, rfl, _⟩ := h; rfl)
/-! ### Gathering.is_gathered -/
def sp_Gathering_is_gathered (K : PySem.W.Frag) : Sp := fun vs H Q _ => ∃ a : Addr, vs = [.ref a] ∧ Q (.bl true) H
theorem sp_Gathering_gath {K : PySem.W.Frag} {H : Hp} {Q : VK} {E : XK} {a : Addr} (q : Q (.bl true) H) : sp_Gathering_is_gathered K [.ref a] H Q E := ⟨a, rfl, q⟩
local macro_rules | `(tactic| kas_types) => `(tactic| (with_reducible refine sp_Gathering_gath ?_))
def t_Gathering_is_gathered (K : PySem.W.Frag) : TS :=
  (tRet (tC (.bl true)))
theorem run_Gathering_is_gathered {K : PySem.W.Frag} {vs : List V} {H : Hp} {Q : VK} {E : XK} (h : sp_Gathering_is_gathered K vs H Q E) : t_Gathering_is_gathered K (Ends.mk (fun _ H' => Q .non H') Q (fun _ _ => False) (fun _ _ => False)) (start ["self"] vs) H := by
  obtain ⟨a, rfl, q⟩ := h
  unfold t_Gathering_is_gathered
  k_ownIn
  exact q
theorem len_Gathering_is_gathered {K : PySem.W.Frag} {vs : List V} {H : Hp} {Q : VK} {E : XK} (h : sp_Gathering_is_gathered K vs H Q E) : vs.length = 1 := by
  first | (obtain ⟨rfl, _⟩ := h; rfl) | (obtain ⟨_, rfl, _⟩ := h; rfl) | (obtain ⟨_, _, rfl, _⟩ := h; rfl) | (obtain ⟨_, _, _, rfl, _⟩ := h; rfl) | (obtain ⟨_, _, _, _, rfl, _⟩ := h; rfl) | (obtain ⟨_, _, _, _, _, rfl, _⟩ := h; rfl) | (obtain ⟨_, _, _, _, _, _, rfl, _⟩ := h; rfl) | (obtain ⟨_, _, _, _, _, _, _, rfl, _⟩ := h; rfl) | (obtain ⟨_, _, _, _, _, _, _, _, rfl, _⟩ := h; rfl) | (obtain ⟨_, _, _, _, _, _, _, _, _, rfl, _⟩ := h; rfl) | (obtain ⟨_, _, _, _, _, _, _, _, _, _, rfl, _⟩ := h; rfl) | (obtain ⟨_, _, _, _, _, _, _, _, _, _, _, rfl, _⟩ := h; rfl) | (obtain ⟨_, _, _, _, _, _, _, _, _, _, _, _, rfl, _⟩ := h; rfl) | (obtain ⟨_, _, _, _, _, _, _, _, _, _, _, _, _, rfl, _⟩ := h; rfl)
/-! ### _law_made_right -/
structure Ways (K : PySem.W.Frag) (H : Hp) (n o : Int) (p : Addr) (vs : List V) : Prop where
  l : H p = some (.lst vs)
  n4 : vs.length = 4
  at_ : ∀ i v, vs[i]? = some v → WayAt K H n o i v
theorem Ways.same {K : PySem.W.Frag} {H H' : Hp} {n o : Int} {p : Addr} {vs : List V} (h : Ways K H n o p vs) (s : Same H H') : Ways K H' n o p vs := ⟨s _ _ h.l, h.n4, fun i v e => (h.at_ i v e).same s⟩
theorem Ways.kp {K : PySem.W.Frag} {H H' : Hp} {n o : Int} {p : Addr} {vs : List V} {l : Addr} {ws : List V} (h : Ways K H n o p vs) (k : Kp l H H') (hl : H l = some (.lst ws)) (ne : p ≠ l) : Ways K H' n o p vs := ⟨k _ _ h.l ne, h.n4, fun i v e => (h.at_ i v e).kp k hl⟩
theorem Ways.four {K : PySem.W.Frag} {H : Hp} {n o : Int} {p : Addr} {vs : List V} (h : Ways K H n o p vs) : ∃ v0 v1 v2 v3, vs = [v0, v1, v2, v3] ∧ WayAt K H n o 0 v0 ∧ WayAt K H n o 1 v1 ∧ WayAt K H n o 2 v2 ∧ WayAt K H n o 3 v3 := by
  obtain ⟨_, h4, ha⟩ := h
  match vs, h4, ha with
  | [v0, v1, v2, v3], _, ha => exact ⟨v0, v1, v2, v3, rfl, ha 0 _ rfl, ha 1 _ rfl, ha 2 _ rfl, ha 3 _ rfl⟩
def sp_law_made_right (K : PySem.W.Frag) : Sp := fun vs H Q _ => ∃ (p : Addr) (ws : List V) (n o : Int), vs = [.ref p, .int n, .int o] ∧ Ways K H n o p ws ∧ ∀ H', Same H H' → Q (.bl true) H'
theorem sp_made_kd {K : PySem.W.Frag} {H : Hp} {Q : VK} {E : XK} {p : Addr} {ws : List V} {n o : Int} (h : Ways K H n o p ws) (q : ∀ H', Same H H' → Q (.bl true) H') : sp_law_made_right K [.ref p, .int n, .int o] H Q E := ⟨_, _, _, _, rfl, h, q⟩
def t_law_made_right (K : PySem.W.Frag) : TS :=
  (tSeq (tFor (iRng1 (tCons (tC (.int 4)) tNil)) (gName 3)
    (tSeq (tIfS (tTest (tOp (rNeD K) (tCall (sp_law_kinds K) [] E0 (tCons (tOp (rIx K) (tVar 0) (tVar 3)) tNil)) (tLst (tCons (tOp rEq (tVar 3) (tC (.int 0))) (tCons (tOp rEq (tVar 3) (tC (.int 1))) (tCons (tOp rEq (tVar 3) (tC (.int 2))) (tCons (tOp rEq (tVar 3) (tC (.int 3))) (tCons (tC (.bl true)) tNil)))))))) (tRet (tC (.bl false))) tNext)
    (tSeq (tAsg (tAlt (tMeth (ga K "Now") "is_gathered" (sp_Way_is_gathered K) [] E0 (tOp (rIx K) (tVar 0) (tVar 3)) tNil) (tAlt (tMeth (ga K "Hour") "is_gathered" (sp_Gathering_is_gathered K) [] E0 (tOp (rIx K) (tVar 0) (tVar 3)) tNil) (tAlt (tMeth (ga K "Day") "is_gathered" (sp_Gathering_is_gathered K) [] E0 (tOp (rIx K) (tVar 0) (tVar 3)) tNil) (tMeth (ga K "Never") "is_gathered" (sp_Way_is_gathered K) [] E0 (tOp (rIx K) (tVar 0) (tVar 3)) tNil)))) (gName 4))
    (tIfS (tOr (tNot (tB (tCB (rIsi K) (tCons (tVar 4) (tCons (tC (.ty "bool")) tNil))))) (tTest (tOp rNe (tVar 4) (tOrV (tOp rEq (tVar 3) (tC (.int 1))) (tOp rEq (tVar 3) (tC (.int 2))))))) (tRet (tC (.bl false))) tNext))))
    (tRet (tAndV (tOp rEq (tFld K (tOp (rIx K) (tVar 0) (tC (.int 1))) "minute") (tVar 1)) (tOp rEq (tFld K (tOp (rIx K) (tVar 0) (tC (.int 2))) "minute") (tVar 2)))))
theorem run_law_made_right {K : PySem.W.Frag} {vs : List V} {H : Hp} {Q : VK} {E : XK} (h : sp_law_made_right K vs H Q E) (c_Hour : Cls K (ga K "Hour")) (c_Day : Cls K (ga K "Day")) (n_Hour_minute : NoAttr K (ga K "Hour") "minute") (n_Day_minute : NoAttr K (ga K "Day") "minute") : t_law_made_right K (Ends.mk (fun _ H' => Q .non H') Q (fun _ _ => False) (fun _ _ => False)) (start ["_law_ways", "_law_one", "_law_other", "_law_k", "_law_found"] vs) H := by
  obtain ⟨p, ws, n, o, rfl, hw, q⟩ := h
  obtain ⟨v0, v1, v2, v3, rfl, w0, w1, w2, w3⟩ := hw.four
  have hp := hw.l
  unfold t_law_made_right
  k_ownIn
  refine r_loopR1 (fun i σ' H' => (∃ v3 v4 : Option V, σ' = [some (.ref p), some (.int n), some (.int o), v3, v4]) ∧ Same H H') (by decide) ⟨⟨_, _, rfl⟩, Same.refl _⟩ ?_ ?_
  · rintro i σ' H' N hi ⟨⟨v3', v4', rfl⟩, hs⟩ hN
    have hp' := hs _ _ hp
    have h4 : i = 0 ∨ i = 1 ∨ i = 2 ∨ i = 3 := by
      have hi : i < 4 := hi
      omega
    rcases h4 with rfl | rfl | rfl | rfl
    · k_ownIn
      kpt_turns
      k_ownIn
      refine sp_kinds_kd (w0.same hs) (fun p1 H1 np1 hq1 s1 => ?_)
      unfold kindsL at hq1
      k_ownIn
      have w0' := (w0.same hs).same s1
      have hp1 := s1 _ _ hp'
      cases w0' with
      | now w0' =>
        k_ownIn
        refine r_altL ?_
        k_ownIn
        exact hN _ _ ⟨⟨_, _, rfl⟩, by k_subL⟩
    · k_ownIn
      kpt_turns
      k_ownIn
      refine sp_kinds_kd (w1.same hs) (fun p1 H1 np1 hq1 s1 => ?_)
      unfold kindsL at hq1
      k_ownIn
      have w1' := (w1.same hs).same s1
      have hp1 := s1 _ _ hp'
      cases w1' with
      | hour w1' h0 h1 =>
        k_ownIn
        refine r_altR (r_altL ?_)
        k_ownIn
        exact hN _ _ ⟨⟨_, _, rfl⟩, by k_subL⟩
    · k_ownIn
      kpt_turns
      k_ownIn
      refine sp_kinds_kd (w2.same hs) (fun p1 H1 np1 hq1 s1 => ?_)
      unfold kindsL at hq1
      k_ownIn
      have w2' := (w2.same hs).same s1
      have hp1 := s1 _ _ hp'
      cases w2' with
      | day w2' h0 h1 =>
        k_ownIn
        refine r_altR (r_altR (r_altL ?_))
        k_ownIn
        exact hN _ _ ⟨⟨_, _, rfl⟩, by k_subL⟩
    · k_ownIn
      kpt_turns
      k_ownIn
      refine sp_kinds_kd (w3.same hs) (fun p1 H1 np1 hq1 s1 => ?_)
      unfold kindsL at hq1
      k_ownIn
      have w3' := (w3.same hs).same s1
      have hp1 := s1 _ _ hp'
      cases w3' with
      | never w3' =>
        k_ownIn
        refine r_altR (r_altR (r_altR ?_))
        k_ownIn
        exact hN _ _ ⟨⟨_, _, rfl⟩, by k_subL⟩
  · rintro σ' H' ⟨⟨v3', v4', rfl⟩, hs⟩
    have hp' := hs _ _ hp
    have w1 := w1.same hs
    have w2 := w2.same hs
    cases w1 with
    | hour w1 a0 a1 =>
      cases w2 with
      | day w2 b0 b1 =>
        k_ownIn
        exact q_t rfl (q _ hs)
theorem len_law_made_right {K : PySem.W.Frag} {vs : List V} {H : Hp} {Q : VK} {E : XK} (h : sp_law_made_right K vs H Q E) : vs.length = 3 := by
  first | (obtain ⟨rfl, _⟩ := h; rfl) | (obtain ⟨_, rfl, _⟩ := h; rfl) | (obtain ⟨_, _, rfl, _⟩ := h; rfl) | (obtain ⟨_, _, _, rfl, _⟩ := h; rfl) | (obtain ⟨_, _, _, _, rfl, _⟩ := h; rfl) | (obtain ⟨_, _, _, _, _, rfl, _⟩ := h; rfl) | (obtain ⟨_, _, _, _, _, _, rfl, _⟩ := h; rfl) | (obtain ⟨_, _, _, _, _, _, _, rfl, _⟩ := h; rfl) | (obtain ⟨_, _, _, _, _, _, _, _, rfl, _⟩ := h; rfl) | (obtain ⟨_, _, _, _, _, _, _, _, _, rfl, _⟩ := h; rfl) | (obtain ⟨_, _, _, _, _, _, _, _, _, _, rfl, _⟩ := h; rfl) | (obtain ⟨_, _, _, _, _, _, _, _, _, _, _, rfl, _⟩ := h; rfl) | (obtain ⟨_, _, _, _, _, _, _, _, _, _, _, _, rfl, _⟩ := h; rfl) | (obtain ⟨_, _, _, _, _, _, _, _, _, _, _, _, _, rfl, _⟩ := h; rfl)
/-! ### _law_no_zones -/
def sp_law_no_zones (K : PySem.W.Frag) : Sp := fun vs H Q _ => vs = [] ∧ ∀ p xs H', xs.length = 9 → (∀ v ∈ xs, Odd (fun k => zoneOf k = none) H H' v) → H p = none → H' p = some (.lst xs) → Same H H' → Q (.ref p) H'
theorem sp_no_zones_use {K : PySem.W.Frag} {H : Hp} {Q : VK} {E : XK} (q : ∀ p xs H', xs.length = 9 → (∀ v ∈ xs, Odd (fun k => zoneOf k = none) H H' v) → H p = none → H' p = some (.lst xs) → Same H H' → Q (.ref p) H') : sp_law_no_zones K [] H Q E := ⟨rfl, q⟩
local macro_rules | `(tactic| kas_types) => `(tactic| ((with_reducible refine' sp_no_zones_use (fun p xs H' lx hx hp hq sm => ?_))))
def t_law_no_zones (K : PySem.W.Frag) : TS :=
  (tRet (tLst (tCons (tC (.int 1440)) (tCons (tUn (rU fun i => .int (-i)) (tC (.int 1440))) (tCons (tC (.int 99999)) (tCons (tC (.bl true)) (tCons (tC (.bl false)) (tCons (tC .non) (tCons (tC (.str "0")) (tCons (tLst (tCons (tC (.int 0)) tNil)) (tCons (tTup (tCons (tC (.int 0)) tNil)) tNil)))))))))))
theorem run_law_no_zones {K : PySem.W.Frag} {vs : List V} {H : Hp} {Q : VK} {E : XK} (h : sp_law_no_zones K vs H Q E) : t_law_no_zones K (Ends.mk (fun _ H' => Q .non H') Q (fun _ _ => False) (fun _ _ => False)) (start [] vs) H := by
  obtain ⟨rfl, q⟩ := h
  unfold t_law_no_zones
  k_ownIn
  rename_i a ha t ht p hp
  have ht0 := upd_none ht
  have hp0 := upd_none (upd_none hp)
  refine q p _ _ rfl ?_ hp0 upd_same (by k_subL)
  intro x hx
  simp only [List.mem_cons, List.not_mem_nil, or_false] at hx
  rcases hx with rfl | rfl | rfl | rfl | rfl | rfl | rfl | rfl | rfl
  · exact ⟨.int _, rfl, by decide, trivial, new_int⟩
  · exact ⟨.int _, rfl, by decide, trivial, new_int⟩
  · exact ⟨.int _, rfl, by decide, trivial, new_int⟩
  · exact ⟨.bl _, rfl, rfl, trivial, new_bl⟩
  · exact ⟨.bl _, rfl, rfl, trivial, new_bl⟩
  · exact ⟨.non, rfl, rfl, trivial, new_non⟩
  · exact ⟨.str _, rfl, rfl, trivial, new_str⟩
  · exact ⟨.lst a [.int 0], rfl, rfl, by show _ = some (HO.lst [V.int 0]); kcj_m, new_lst ha⟩
  · exact ⟨.tup t [.int 0], rfl, rfl, by show _ = some (HO.tup [V.int 0]); kcj_m, new_tup ht0⟩
theorem len_law_no_zones {K : PySem.W.Frag} {vs : List V} {H : Hp} {Q : VK} {E : XK} (h : sp_law_no_zones K vs H Q E) : vs.length = 0 := by
  first | (obtain ⟨rfl, _⟩ := h; rfl) | (obtain ⟨_, rfl, _⟩ := h; rfl) | (obtain ⟨_, _, rfl, _⟩ := h; rfl) | (obtain ⟨_, _, _, rfl, _⟩ := h; rfl) | (obtain ⟨_, _, _, _, rfl, _⟩ := h; rfl) | (obtain ⟨_, _, _, _, _, rfl, _⟩ := h; rfl) | (obtain ⟨_, _, _, _, _, _, rfl, _⟩ := h; rfl) | (obtain ⟨_, _, _, _, _, _, _, rfl, _⟩ := h; rfl) | (obtain ⟨_, _, _, _, _, _, _, _, rfl, _⟩ := h; rfl) | (obtain ⟨_, _, _, _, _, _, _, _, _, rfl, _⟩ := h; rfl) | (obtain ⟨_, _, _, _, _, _, _, _, _, _, rfl, _⟩ := h; rfl) | (obtain ⟨_, _, _, _, _, _, _, _, _, _, _, rfl, _⟩ := h; rfl) | (obtain ⟨_, _, _, _, _, _, _, _, _, _, _, _, rfl, _⟩ := h; rfl) | (obtain ⟨_, _, _, _, _, _, _, _, _, _, _, _, _, rfl, _⟩ := h; rfl)
/-! ### _law_whole -/
def sp_law_whole (K : PySem.W.Frag) : Sp := fun vs H Q _ => ∃ (i : Int), vs = [.int i] ∧ Q (.bl true) H
theorem sp_lwhole_int {K : PySem.W.Frag} {H : Hp} {Q : VK} {E : XK} {i : Int} (q : Q (.bl true) H) : sp_law_whole K [.int i] H Q E := ⟨_, rfl, q⟩
local macro_rules | `(tactic| kas_types) => `(tactic| (with_reducible refine sp_lwhole_int ?_))
def t_law_whole (K : PySem.W.Frag) : TS :=
  (tRet (tAndV (tCB (rIsi K) (tCons (tVar 0) (tCons (tC (.ty "int")) tNil))) (tNotV (tCB (rIsi K) (tCons (tVar 0) (tCons (tC (.ty "bool")) tNil))))))
theorem run_law_whole {K : PySem.W.Frag} {vs : List V} {H : Hp} {Q : VK} {E : XK} (h : sp_law_whole K vs H Q E) : t_law_whole K (Ends.mk (fun _ H' => Q .non H') Q (fun _ _ => False) (fun _ _ => False)) (start ["_law_found"] vs) H := by
  obtain ⟨i, rfl, q⟩ := h
  unfold t_law_whole
  k_ownIn
  exact q
theorem len_law_whole {K : PySem.W.Frag} {vs : List V} {H : Hp} {Q : VK} {E : XK} (h : sp_law_whole K vs H Q E) : vs.length = 1 := by
  first | (obtain ⟨rfl, _⟩ := h; rfl) | (obtain ⟨_, rfl, _⟩ := h; rfl) | (obtain ⟨_, _, rfl, _⟩ := h; rfl) | (obtain ⟨_, _, _, rfl, _⟩ := h; rfl) | (obtain ⟨_, _, _, _, rfl, _⟩ := h; rfl) | (obtain ⟨_, _, _, _, _, rfl, _⟩ := h; rfl) | (obtain ⟨_, _, _, _, _, _, rfl, _⟩ := h; rfl) | (obtain ⟨_, _, _, _, _, _, _, rfl, _⟩ := h; rfl) | (obtain ⟨_, _, _, _, _, _, _, _, rfl, _⟩ := h; rfl) | (obtain ⟨_, _, _, _, _, _, _, _, _, rfl, _⟩ := h; rfl) | (obtain ⟨_, _, _, _, _, _, _, _, _, _, rfl, _⟩ := h; rfl) | (obtain ⟨_, _, _, _, _, _, _, _, _, _, _, rfl, _⟩ := h; rfl) | (obtain ⟨_, _, _, _, _, _, _, _, _, _, _, _, rfl, _⟩ := h; rfl) | (obtain ⟨_, _, _, _, _, _, _, _, _, _, _, _, _, rfl, _⟩ := h; rfl)
/-! ### _law_next_right -/
def sp_law_next_right (K : PySem.W.Frag) : Sp := fun vs H Q _ => ∃ (r m z n k : Int), vs = [.int r, .int m, .int z, .int n, .int k] ∧ 0 < k ∧ m ≤ r ∧ r < m + k ∧ (r + z) % 1440 % k = n ∧ Q (.bl true) H
theorem sp_next_right_use {K : PySem.W.Frag} {H : Hp} {Q : VK} {E : XK} {r m z n k : Int} (h0 : 0 < k) (h1 : m ≤ r) (h2 : r < m + k) (h3 : (r + z) % 1440 % k = n) (q : Q (.bl true) H) : sp_law_next_right K [.int r, .int m, .int z, .int n, .int k] H Q E := ⟨_, _, _, _, _, rfl, h0, h1, h2, h3, q⟩
local macro_rules | `(tactic| kas_types) => `(tactic| ((with_reducible refine' sp_next_right_use ?h0 ?h1 ?h2 ?h3 ?_); (case h0 => omega); (case h1 => omega); (case h2 => omega); (case h3 => omega)))
def t_law_next_right (K : PySem.W.Frag) : TS :=
  (tSeq (tIfS (tOr (tNot (tB (tCall (sp_law_whole K) [] E0 (tCons (tVar 0) tNil)))) (tNot (tTest (tChain (rI0 fun i j => .bl (decide (i ≤ j))) (rI0 fun i j => .bl (decide (i < j))) (tVar 1) (tVar 0) (tOp (rI0 fun i j => .int (i + j)) (tVar 1) (tVar 4)))))) (tRet (tC (.bl false))) tNext)
    (tRet (tOp rEq (tOp (rI (fun _ j => 0 < j) fun i j => .int (i % j)) (tOp (rI (fun _ j => 0 < j) fun i j => .int (i % j)) (tOp (rI0 fun i j => .int (i + j)) (tVar 0) (tVar 2)) (tC (.int 1440))) (tVar 4)) (tVar 3))))
theorem run_law_next_right {K : PySem.W.Frag} {vs : List V} {H : Hp} {Q : VK} {E : XK} (h : sp_law_next_right K vs H Q E) : t_law_next_right K (Ends.mk (fun _ H' => Q .non H') Q (fun _ _ => False) (fun _ _ => False)) (start ["_law_found", "_law_moment_here", "_law_zone", "_law_minute", "_law_many"] vs) H := by
  obtain ⟨r, m, z, n, k, rfl, h0, h1, h2, h3, q⟩ := h
  unfold t_law_next_right
  k_ownIn
  exact q_t h3 q
theorem len_law_next_right {K : PySem.W.Frag} {vs : List V} {H : Hp} {Q : VK} {E : XK} (h : sp_law_next_right K vs H Q E) : vs.length = 5 := by
  first | (obtain ⟨rfl, _⟩ := h; rfl) | (obtain ⟨_, rfl, _⟩ := h; rfl) | (obtain ⟨_, _, rfl, _⟩ := h; rfl) | (obtain ⟨_, _, _, rfl, _⟩ := h; rfl) | (obtain ⟨_, _, _, _, rfl, _⟩ := h; rfl) | (obtain ⟨_, _, _, _, _, rfl, _⟩ := h; rfl) | (obtain ⟨_, _, _, _, _, _, rfl, _⟩ := h; rfl) | (obtain ⟨_, _, _, _, _, _, _, rfl, _⟩ := h; rfl) | (obtain ⟨_, _, _, _, _, _, _, _, rfl, _⟩ := h; rfl) | (obtain ⟨_, _, _, _, _, _, _, _, _, rfl, _⟩ := h; rfl) | (obtain ⟨_, _, _, _, _, _, _, _, _, _, rfl, _⟩ := h; rfl) | (obtain ⟨_, _, _, _, _, _, _, _, _, _, _, rfl, _⟩ := h; rfl) | (obtain ⟨_, _, _, _, _, _, _, _, _, _, _, _, rfl, _⟩ := h; rfl) | (obtain ⟨_, _, _, _, _, _, _, _, _, _, _, _, _, rfl, _⟩ := h; rfl)
/-! ### Now.moment_from -/
def sp_Now_moment_from (K : PySem.W.Frag) : Sp := fun vs H Q E => ∃ (a : Addr) (m : Int) (kz : Kd), vs = [.ref a, .int m, kz.v] ∧ kz.typ H ∧ (∀ z, zoneOf kz = some z → ∀ H', Same H H' → Q (.int m) H') ∧ (zoneOf kz = none → ∀ H', Same H H' → E (.ref (ga K "NoClock")) none H')
theorem sp_Now_from_kd {K : PySem.W.Frag} {H : Hp} {Q : VK} {E : XK} {a : Addr} {m : Int} (kz : Kd) (t : kz.typ H) (q : ∀ z, zoneOf kz = some z → ∀ H', Same H H' → Q (.int m) H') (b : zoneOf kz = none → ∀ H', Same H H' → E (.ref (ga K "NoClock")) none H') :
  sp_Now_moment_from K [.ref a, .int m, kz.v] H Q E := ⟨a, m, kz, rfl, t, q, b⟩
theorem sp_Now_from_use {K : PySem.W.Frag} {H : Hp} {Q : VK} {E : XK} {a : Addr} {m z : Int} (h0 : -1439 ≤ z) (h1 : z ≤ 1439) (q : ∀ H', Same H H' → Q (.int m) H') : sp_Now_moment_from K [.ref a, .int m, .int z] H Q E :=
  sp_Now_from_kd (.int z) trivial (fun _ _ => q) (fun hb => by rw [show zoneOf (.int z) = some z from intOf_int h0 h1] at hb; cases hb)
local macro_rules | `(tactic| kas_types) => `(tactic| ((with_reducible refine' sp_Now_from_use ?h0 ?h1 (fun H' sm => ?_)); (case h0 => omega); (case h1 => omega)))
def t_Now_moment_from (K : PySem.W.Frag) (E : XK) : TS :=
  (tSeq (tDrop (tCall (sp_shown K) [] E (tCons (tVar 1) (tCons (tVar 2) tNil))))
    (tRet (tVar 1)))
theorem run_Now_moment_from {K : PySem.W.Frag} {vs : List V} {H : Hp} {Q : VK} {E : XK} (h : sp_Now_moment_from K vs H Q E) : t_Now_moment_from K E (Ends.mk (fun _ H' => Q .non H') Q (fun _ _ => False) (fun _ _ => False)) (start ["self", "moment", "zone"] vs) H := by
  obtain ⟨a, m, kz, rfl, t, q, b⟩ := h
  unfold t_Now_moment_from
  k_ownIn
  refine sp_shown_kd kz t (fun z hz p hp => ?_) (fun hb => b hb H (Same.refl _))
  k_ownIn
  exact q z hz _ (by k_subL)
theorem len_Now_moment_from {K : PySem.W.Frag} {vs : List V} {H : Hp} {Q : VK} {E : XK} (h : sp_Now_moment_from K vs H Q E) : vs.length = 3 := by
  first | (obtain ⟨rfl, _⟩ := h; rfl) | (obtain ⟨_, rfl, _⟩ := h; rfl) | (obtain ⟨_, _, rfl, _⟩ := h; rfl) | (obtain ⟨_, _, _, rfl, _⟩ := h; rfl) | (obtain ⟨_, _, _, _, rfl, _⟩ := h; rfl) | (obtain ⟨_, _, _, _, _, rfl, _⟩ := h; rfl) | (obtain ⟨_, _, _, _, _, _, rfl, _⟩ := h; rfl) | (obtain ⟨_, _, _, _, _, _, _, rfl, _⟩ := h; rfl) | (obtain ⟨_, _, _, _, _, _, _, _, rfl, _⟩ := h; rfl) | (obtain ⟨_, _, _, _, _, _, _, _, _, rfl, _⟩ := h; rfl) | (obtain ⟨_, _, _, _, _, _, _, _, _, _, rfl, _⟩ := h; rfl) | (obtain ⟨_, _, _, _, _, _, _, _, _, _, _, rfl, _⟩ := h; rfl) | (obtain ⟨_, _, _, _, _, _, _, _, _, _, _, _, rfl, _⟩ := h; rfl) | (obtain ⟨_, _, _, _, _, _, _, _, _, _, _, _, _, rfl, _⟩ := h; rfl)
/-! ### Hour.moment_from -/
def sp_Hour_moment_from (K : PySem.W.Frag) : Sp := fun vs H Q E => ∃ (a dx : Addr) (n m : Int) (kz : Kd), vs = [.ref a, .int m, kz.v] ∧ H a = some (.ins (ga K "Hour") dx [("minute", .int n)]) ∧ 0 ≤ n ∧ n ≤ 59 ∧ kz.typ H ∧ (∀ z, zoneOf kz = some z → ∀ H', Same H H' → Q (.int (m + (n - (m + z) % 1440) % 60)) H') ∧ (zoneOf kz = none → ∀ H', Same H H' → E (.ref (ga K "NoClock")) none H')
theorem sp_Hour_from_kd {K : PySem.W.Frag} {H : Hp} {Q : VK} {E : XK} {a dx : Addr} {m n : Int} (kz : Kd) (ha : H a = some (.ins (ga K "Hour") dx [("minute", .int n)])) (n0 : 0 ≤ n) (n1 : n ≤ 59) (t : kz.typ H) (q : ∀ z, zoneOf kz = some z → ∀ H', Same H H' → Q (.int (m + (n - (m + z) % 1440) % 60)) H') (b : zoneOf kz = none → ∀ H', Same H H' → E (.ref (ga K "NoClock")) none H') :
  sp_Hour_moment_from K [.ref a, .int m, kz.v] H Q E := ⟨a, dx, n, m, kz, rfl, ha, n0, n1, t, q, b⟩
theorem sp_Hour_from_use {K : PySem.W.Frag} {H : Hp} {Q : VK} {E : XK} {a dx : Addr} {m z n : Int} (ha : H a = some (.ins (ga K "Hour") dx [("minute", .int n)])) (n0 : 0 ≤ n) (n1 : n ≤ 59) (h0 : -1439 ≤ z) (h1 : z ≤ 1439) (q : ∀ H', Same H H' → Q (.int (m + (n - (m + z) % 1440) % 60)) H') : sp_Hour_moment_from K [.ref a, .int m, .int z] H Q E :=
  sp_Hour_from_kd (.int z) ha n0 n1 trivial (fun z' hz => by rw [show zoneOf (.int z) = some z from intOf_int h0 h1] at hz; cases hz; exact q) (fun hb => by rw [show zoneOf (.int z) = some z from intOf_int h0 h1] at hb; cases hb)
local macro_rules | `(tactic| kas_types) => `(tactic| ((with_reducible refine' sp_Hour_from_use ?ha ?n0 ?n1 ?h0 ?h1 (fun H' sm => ?_)); (case ha => kcj_m); (case n0 => omega); (case n1 => omega); (case h0 => omega); (case h1 => omega)))
def t_Hour_moment_from (K : PySem.W.Frag) (E : XK) : TS :=
  (tRet (tCall (sp_next_hour K) [] E (tCons (tFld K (tVar 0) "minute") (tCons (tVar 2) (tCons (tVar 1) tNil)))))
theorem run_Hour_moment_from {K : PySem.W.Frag} {vs : List V} {H : Hp} {Q : VK} {E : XK} (h : sp_Hour_moment_from K vs H Q E) (c_Hour : Cls K (ga K "Hour")) (n_Hour_minute : NoAttr K (ga K "Hour") "minute") : t_Hour_moment_from K E (Ends.mk (fun _ H' => Q .non H') Q (fun _ _ => False) (fun _ _ => False)) (start ["self", "moment", "zone"] vs) H := by
  obtain ⟨a, dx, n, m, kz, rfl, ha, n0, n1, t, q, b⟩ := h
  unfold t_Hour_moment_from
  k_ownIn
  refine sp_next_hour_kd (.int n) kz trivial t (fun n' z hn hz H1 s1 => ?_) (fun hb H1 s1 => b (hb.resolve_left (fun z => by rw [intOf_int n0 n1] at z; cases z)) H1 s1)
  rw [intOf_int n0 n1] at hn
  cases hn
  exact q z hz H1 s1
theorem len_Hour_moment_from {K : PySem.W.Frag} {vs : List V} {H : Hp} {Q : VK} {E : XK} (h : sp_Hour_moment_from K vs H Q E) : vs.length = 3 := by
  first | (obtain ⟨rfl, _⟩ := h; rfl) | (obtain ⟨_, rfl, _⟩ := h; rfl) | (obtain ⟨_, _, rfl, _⟩ := h; rfl) | (obtain ⟨_, _, _, rfl, _⟩ := h; rfl) | (obtain ⟨_, _, _, _, rfl, _⟩ := h; rfl) | (obtain ⟨_, _, _, _, _, rfl, _⟩ := h; rfl) | (obtain ⟨_, _, _, _, _, _, rfl, _⟩ := h; rfl) | (obtain ⟨_, _, _, _, _, _, _, rfl, _⟩ := h; rfl) | (obtain ⟨_, _, _, _, _, _, _, _, rfl, _⟩ := h; rfl) | (obtain ⟨_, _, _, _, _, _, _, _, _, rfl, _⟩ := h; rfl) | (obtain ⟨_, _, _, _, _, _, _, _, _, _, rfl, _⟩ := h; rfl) | (obtain ⟨_, _, _, _, _, _, _, _, _, _, _, rfl, _⟩ := h; rfl) | (obtain ⟨_, _, _, _, _, _, _, _, _, _, _, _, rfl, _⟩ := h; rfl) | (obtain ⟨_, _, _, _, _, _, _, _, _, _, _, _, _, rfl, _⟩ := h; rfl)
/-! ### Day.moment_from -/
def sp_Day_moment_from (K : PySem.W.Frag) : Sp := fun vs H Q E => ∃ (a dx : Addr) (n m : Int) (kz : Kd), vs = [.ref a, .int m, kz.v] ∧ H a = some (.ins (ga K "Day") dx [("minute", .int n)]) ∧ 0 ≤ n ∧ n ≤ 1439 ∧ kz.typ H ∧ (∀ z, zoneOf kz = some z → ∀ H', Same H H' → Q (.int (m + (n - (m + z) % 1440) % 1440)) H') ∧ (zoneOf kz = none → ∀ H', Same H H' → E (.ref (ga K "NoClock")) none H')
theorem sp_Day_from_kd {K : PySem.W.Frag} {H : Hp} {Q : VK} {E : XK} {a dx : Addr} {m n : Int} (kz : Kd) (ha : H a = some (.ins (ga K "Day") dx [("minute", .int n)])) (n0 : 0 ≤ n) (n1 : n ≤ 1439) (t : kz.typ H) (q : ∀ z, zoneOf kz = some z → ∀ H', Same H H' → Q (.int (m + (n - (m + z) % 1440) % 1440)) H') (b : zoneOf kz = none → ∀ H', Same H H' → E (.ref (ga K "NoClock")) none H') :
  sp_Day_moment_from K [.ref a, .int m, kz.v] H Q E := ⟨a, dx, n, m, kz, rfl, ha, n0, n1, t, q, b⟩
theorem sp_Day_from_use {K : PySem.W.Frag} {H : Hp} {Q : VK} {E : XK} {a dx : Addr} {m z n : Int} (ha : H a = some (.ins (ga K "Day") dx [("minute", .int n)])) (n0 : 0 ≤ n) (n1 : n ≤ 1439) (h0 : -1439 ≤ z) (h1 : z ≤ 1439) (q : ∀ H', Same H H' → Q (.int (m + (n - (m + z) % 1440) % 1440)) H') : sp_Day_moment_from K [.ref a, .int m, .int z] H Q E :=
  sp_Day_from_kd (.int z) ha n0 n1 trivial (fun z' hz => by rw [show zoneOf (.int z) = some z from intOf_int h0 h1] at hz; cases hz; exact q) (fun hb => by rw [show zoneOf (.int z) = some z from intOf_int h0 h1] at hb; cases hb)
local macro_rules | `(tactic| kas_types) => `(tactic| ((with_reducible refine' sp_Day_from_use ?ha ?n0 ?n1 ?h0 ?h1 (fun H' sm => ?_)); (case ha => kcj_m); (case n0 => omega); (case n1 => omega); (case h0 => omega); (case h1 => omega)))
def t_Day_moment_from (K : PySem.W.Frag) (E : XK) : TS :=
  (tRet (tCall (sp_next_day K) [] E (tCons (tFld K (tVar 0) "minute") (tCons (tVar 2) (tCons (tVar 1) tNil)))))
theorem run_Day_moment_from {K : PySem.W.Frag} {vs : List V} {H : Hp} {Q : VK} {E : XK} (h : sp_Day_moment_from K vs H Q E) (c_Day : Cls K (ga K "Day")) (n_Day_minute : NoAttr K (ga K "Day") "minute") : t_Day_moment_from K E (Ends.mk (fun _ H' => Q .non H') Q (fun _ _ => False) (fun _ _ => False)) (start ["self", "moment", "zone"] vs) H := by
  obtain ⟨a, dx, n, m, kz, rfl, ha, n0, n1, t, q, b⟩ := h
  unfold t_Day_moment_from
  k_ownIn
  refine sp_next_day_kd (.int n) kz trivial t (fun n' z hn hz H1 s1 => ?_) (fun hb H1 s1 => b (hb.resolve_left (fun z => by rw [intOf_int n0 n1] at z; cases z)) H1 s1)
  rw [intOf_int n0 n1] at hn
  cases hn
  exact q z hz H1 s1
theorem len_Day_moment_from {K : PySem.W.Frag} {vs : List V} {H : Hp} {Q : VK} {E : XK} (h : sp_Day_moment_from K vs H Q E) : vs.length = 3 := by
  first | (obtain ⟨rfl, _⟩ := h; rfl) | (obtain ⟨_, rfl, _⟩ := h; rfl) | (obtain ⟨_, _, rfl, _⟩ := h; rfl) | (obtain ⟨_, _, _, rfl, _⟩ := h; rfl) | (obtain ⟨_, _, _, _, rfl, _⟩ := h; rfl) | (obtain ⟨_, _, _, _, _, rfl, _⟩ := h; rfl) | (obtain ⟨_, _, _, _, _, _, rfl, _⟩ := h; rfl) | (obtain ⟨_, _, _, _, _, _, _, rfl, _⟩ := h; rfl) | (obtain ⟨_, _, _, _, _, _, _, _, rfl, _⟩ := h; rfl) | (obtain ⟨_, _, _, _, _, _, _, _, _, rfl, _⟩ := h; rfl) | (obtain ⟨_, _, _, _, _, _, _, _, _, _, rfl, _⟩ := h; rfl) | (obtain ⟨_, _, _, _, _, _, _, _, _, _, _, rfl, _⟩ := h; rfl) | (obtain ⟨_, _, _, _, _, _, _, _, _, _, _, _, rfl, _⟩ := h; rfl) | (obtain ⟨_, _, _, _, _, _, _, _, _, _, _, _, _, rfl, _⟩ := h; rfl)
/-! ### Never.moment_from -/
def sp_Never_moment_from (K : PySem.W.Frag) : Sp := fun vs H Q E => ∃ (a : Addr) (m : Int) (kz : Kd), vs = [.ref a, .int m, kz.v] ∧ kz.typ H ∧ (∀ z, zoneOf kz = some z → ∀ H', Same H H' → Q .non H') ∧ (zoneOf kz = none → ∀ H', Same H H' → E (.ref (ga K "NoClock")) none H')
theorem sp_Never_from_kd {K : PySem.W.Frag} {H : Hp} {Q : VK} {E : XK} {a : Addr} {m : Int} (kz : Kd) (t : kz.typ H) (q : ∀ z, zoneOf kz = some z → ∀ H', Same H H' → Q .non H') (b : zoneOf kz = none → ∀ H', Same H H' → E (.ref (ga K "NoClock")) none H') :
  sp_Never_moment_from K [.ref a, .int m, kz.v] H Q E := ⟨a, m, kz, rfl, t, q, b⟩
theorem sp_Never_from_use {K : PySem.W.Frag} {H : Hp} {Q : VK} {E : XK} {a : Addr} {m z : Int} (h0 : -1439 ≤ z) (h1 : z ≤ 1439) (q : ∀ H', Same H H' → Q (.non) H') : sp_Never_moment_from K [.ref a, .int m, .int z] H Q E :=
  sp_Never_from_kd (.int z) trivial (fun _ _ => q) (fun hb => by rw [show zoneOf (.int z) = some z from intOf_int h0 h1] at hb; cases hb)
local macro_rules | `(tactic| kas_types) => `(tactic| ((with_reducible refine' sp_Never_from_use ?h0 ?h1 (fun H' sm => ?_)); (case h0 => omega); (case h1 => omega)))
def t_Never_moment_from (K : PySem.W.Frag) (E : XK) : TS :=
  (tSeq (tDrop (tCall (sp_shown K) [] E (tCons (tVar 1) (tCons (tVar 2) tNil))))
    (tRet (tC .non)))
theorem run_Never_moment_from {K : PySem.W.Frag} {vs : List V} {H : Hp} {Q : VK} {E : XK} (h : sp_Never_moment_from K vs H Q E) : t_Never_moment_from K E (Ends.mk (fun _ H' => Q .non H') Q (fun _ _ => False) (fun _ _ => False)) (start ["self", "moment", "zone"] vs) H := by
  obtain ⟨a, m, kz, rfl, t, q, b⟩ := h
  unfold t_Never_moment_from
  k_ownIn
  refine sp_shown_kd kz t (fun z hz p hp => ?_) (fun hb => b hb H (Same.refl _))
  k_ownIn
  exact q z hz _ (by k_subL)
theorem len_Never_moment_from {K : PySem.W.Frag} {vs : List V} {H : Hp} {Q : VK} {E : XK} (h : sp_Never_moment_from K vs H Q E) : vs.length = 3 := by
  first | (obtain ⟨rfl, _⟩ := h; rfl) | (obtain ⟨_, rfl, _⟩ := h; rfl) | (obtain ⟨_, _, rfl, _⟩ := h; rfl) | (obtain ⟨_, _, _, rfl, _⟩ := h; rfl) | (obtain ⟨_, _, _, _, rfl, _⟩ := h; rfl) | (obtain ⟨_, _, _, _, _, rfl, _⟩ := h; rfl) | (obtain ⟨_, _, _, _, _, _, rfl, _⟩ := h; rfl) | (obtain ⟨_, _, _, _, _, _, _, rfl, _⟩ := h; rfl) | (obtain ⟨_, _, _, _, _, _, _, _, rfl, _⟩ := h; rfl) | (obtain ⟨_, _, _, _, _, _, _, _, _, rfl, _⟩ := h; rfl) | (obtain ⟨_, _, _, _, _, _, _, _, _, _, rfl, _⟩ := h; rfl) | (obtain ⟨_, _, _, _, _, _, _, _, _, _, _, rfl, _⟩ := h; rfl) | (obtain ⟨_, _, _, _, _, _, _, _, _, _, _, _, rfl, _⟩ := h; rfl) | (obtain ⟨_, _, _, _, _, _, _, _, _, _, _, _, _, rfl, _⟩ := h; rfl)
/-! ### _law_asked -/
def sp_law_asked (K : PySem.W.Frag) : Sp := fun vs H Q E => ∃ (z : Str) (k : Kd) (v : V), vs = [.str z, k.v, v] ∧ k.typ H ∧ AskBad K H z k v ∧ ∀ H', Same H H' → E (.ref (ga K "NoClock")) none H'
theorem sp_asked_kd {K : PySem.W.Frag} {H : Hp} {Q : VK} {E : XK} {z : Str} {v : V} (k : Kd) (t : k.typ H) (h : AskBad K H z k v) (b : ∀ H', Same H H' → E (.ref (ga K "NoClock")) none H') : sp_law_asked K [.str z, k.v, v] H Q E := ⟨z, k, v, rfl, t, h, b⟩
def t_law_asked (K : PySem.W.Frag) (E : XK) : TS :=
  (tSeq (tIfS (tTest (tOp rEq (tVar 0) (tC (.str "hour")))) (tRet (tMake (ga K "Hour") (sp_Hour_init K) [] E (tCons (tVar 1) tNil))) tNext)
    (tSeq (tIfS (tTest (tOp rEq (tVar 0) (tC (.str "day")))) (tRet (tMake (ga K "Day") (sp_Day_init K) [] E (tCons (tVar 1) tNil))) tNext)
    (tRet (tAlt (tMeth (ga K "Now") "moment_from" (sp_Now_moment_from K) [] E (tVar 2) (tCons (tC (.int 5)) (tCons (tVar 1) tNil))) (tAlt (tMeth (ga K "Hour") "moment_from" (sp_Hour_moment_from K) [] E (tVar 2) (tCons (tC (.int 5)) (tCons (tVar 1) tNil))) (tAlt (tMeth (ga K "Day") "moment_from" (sp_Day_moment_from K) [] E (tVar 2) (tCons (tC (.int 5)) (tCons (tVar 1) tNil))) (tMeth (ga K "Never") "moment_from" (sp_Never_moment_from K) [] E (tVar 2) (tCons (tC (.int 5)) (tCons (tVar 1) tNil)))))))))
theorem run_law_asked {K : PySem.W.Frag} {vs : List V} {H : Hp} {Q : VK} {E : XK} (h : sp_law_asked K vs H Q E) : t_law_asked K E (Ends.mk (fun _ H' => Q .non H') Q (fun _ _ => False) (fun _ _ => False)) (start ["_law_word", "_law_thing", "_law_way"] vs) H := by
  obtain ⟨z, k, v, rfl, t, hb, b⟩ := h
  unfold t_law_asked
  rcases hb with ⟨rfl, hb⟩ | ⟨rfl, hb⟩ | ⟨rfl, hb, n, o, i, hw⟩
  · k_ownIn
    rename_i x dx nx ne
    obtain ⟨ndx, ne⟩ := ne
    have sm : Same H (upd (upd H dx (.own x)) x (.ins (ga K "Hour") dx [])) := same_made nx ndx (Kp.refl _ _)
    exact sp_Hour_kd k upd_same (t.same sm) (fun n hn => by rw [hb] at hn; cases hn) (fun _ H1 s1 => b _ (Same.trans sm s1))
  · k_ownIn
    kpt_turns
    k_ownIn
    refine ite_n (by decide) ?_
    k_ownIn
    rename_i x dx nx ne
    obtain ⟨ndx, ne⟩ := ne
    have sm : Same H (upd (upd H dx (.own x)) x (.ins (ga K "Day") dx [])) := same_made nx ndx (Kp.refl _ _)
    exact sp_Day_kd k upd_same (t.same sm) (fun n hn => by rw [hb] at hn; cases hn) (fun _ H1 s1 => b _ (Same.trans sm s1))
  · k_ownIn
    kpt_turns
    k_ownIn
    refine ite_n (by decide) ?_
    k_ownIn
    kpt_turns
    k_ownIn
    refine ite_n (by decide) ?_
    k_ownIn
    cases hw with
    | now hw =>
      refine r_altL ?_
      k_ownIn
      exact sp_Now_from_kd k t (fun z hz => by rw [hb] at hz; cases hz) (fun _ => b)
    | hour hw h0 h1 =>
      refine r_altR (r_altL ?_)
      k_ownIn
      exact sp_Hour_from_kd k hw h0 h1 t (fun z hz => by rw [hb] at hz; cases hz) (fun _ => b)
    | day hw h0 h1 =>
      refine r_altR (r_altR (r_altL ?_))
      k_ownIn
      exact sp_Day_from_kd k hw h0 h1 t (fun z hz => by rw [hb] at hz; cases hz) (fun _ => b)
    | never hw =>
      refine r_altR (r_altR (r_altR ?_))
      k_ownIn
      exact sp_Never_from_kd k t (fun z hz => by rw [hb] at hz; cases hz) (fun _ => b)
theorem len_law_asked {K : PySem.W.Frag} {vs : List V} {H : Hp} {Q : VK} {E : XK} (h : sp_law_asked K vs H Q E) : vs.length = 3 := by
  first | (obtain ⟨rfl, _⟩ := h; rfl) | (obtain ⟨_, rfl, _⟩ := h; rfl) | (obtain ⟨_, _, rfl, _⟩ := h; rfl) | (obtain ⟨_, _, _, rfl, _⟩ := h; rfl) | (obtain ⟨_, _, _, _, rfl, _⟩ := h; rfl) | (obtain ⟨_, _, _, _, _, rfl, _⟩ := h; rfl) | (obtain ⟨_, _, _, _, _, _, rfl, _⟩ := h; rfl) | (obtain ⟨_, _, _, _, _, _, _, rfl, _⟩ := h; rfl) | (obtain ⟨_, _, _, _, _, _, _, _, rfl, _⟩ := h; rfl) | (obtain ⟨_, _, _, _, _, _, _, _, _, rfl, _⟩ := h; rfl) | (obtain ⟨_, _, _, _, _, _, _, _, _, _, rfl, _⟩ := h; rfl) | (obtain ⟨_, _, _, _, _, _, _, _, _, _, _, rfl, _⟩ := h; rfl) | (obtain ⟨_, _, _, _, _, _, _, _, _, _, _, _, rfl, _⟩ := h; rfl) | (obtain ⟨_, _, _, _, _, _, _, _, _, _, _, _, _, rfl, _⟩ := h; rfl)
/-! ### _law_refused -/
def sp_law_refused (K : PySem.W.Frag) : Sp := fun vs H Q _ => ∃ (z : Str) (k : Kd) (v : V), vs = [.str z, k.v, v] ∧ k.typ H ∧ AskBad K H z k v ∧ ∀ H', Same H H' → Q (.bl true) H'
theorem sp_refused_kd {K : PySem.W.Frag} {H : Hp} {Q : VK} {E : XK} {z : Str} {v : V} (k : Kd) (t : k.typ H) (h : AskBad K H z k v) (q : ∀ H', Same H H' → Q (.bl true) H') : sp_law_refused K [.str z, k.v, v] H Q E := ⟨z, k, v, rfl, t, h, q⟩
def t_law_refused (K : PySem.W.Frag) : TS :=
  (tSeq (tAsg (tC (.bl false)) (gName 3))
    (tSeq (tTryAs K (.ref (ga K "BellError")) 4 (fun W => (tDrop (tCallS (sp_law_asked K) (WE W) (tCons (tVar 0) (tCons (tVar 1) (tCons (tVar 2) tNil))))))
    (fun a cls d => (tSeq (tAsg (tCB (rIsXT K cls d a) (tCons (tVar 4) (tCons (tTup (tCons (tC (.ref (ga K "NoFit"))) (tCons (tC (.ref (ga K "NoRow"))) (tCons (tC (.ref (ga K "NoTime"))) (tCons (tC (.ref (ga K "NoWish"))) tNil))))) tNil))) (gName 5))
    (tAsg (tAndV (tCB (rIsX K cls d a) (tCons (tVar 4) (tCons (tC (.ref (ga K "NoClock"))) tNil))) (tAndV (tCB (rIsX K cls d a) (tCons (tVar 4) (tCons (tC (.ty "ValueError")) tNil))) (tNotV (tVar 5)))) (gName 3)))) (fun _ _ _ _ => False))
    (tRet (tVar 3))))
theorem run_law_refused {K : PySem.W.Frag} {vs : List V} {H : Hp} {Q : VK} {E : XK} (h : sp_law_refused K vs H Q E) (hx : xf_law_refused K = true) : t_law_refused K (Ends.mk (fun _ H' => Q .non H') Q (fun _ _ => False) (fun _ _ => False)) (start ["_law_word", "_law_thing", "_law_way", "_law_found", "e", "_law_other"] vs) H := by
  obtain ⟨z, k, v, rfl, t, hb, q⟩ := h
  obtain ⟨x1, hx⟩ := b2 hx
  obtain ⟨x2, hx⟩ := b2 hx
  obtain ⟨x3, hx⟩ := b2 hx
  obtain ⟨x5, x6⟩ := b2 hx
  have x1 := excB_ok x1
  have x2 := of_decide_eq_true x2
  have x3 := of_decide_eq_true x3
  have x5 := of_decide_eq_true x5
  have x6 := of_decide_eq_true x6
  unfold t_law_refused
  k_ownIn
  refine r_tryAs ?_
  k_ownIn
  refine r_callS ?_
  k_ownIn
  refine sp_asked_kd k t hb (fun H1 s1 => ?_)
  refine r_caught x2 (fun a ha => ?_)
  k_ownIn
  refine r_isXT upd_same x1 (.cons (.own _) (.cons (.own _) (.cons (.own _) (.cons (.own _) .nil)))) x3 ?_
  k_ownIn
  refine r_isX x1 (.own _) x5 ?_
  k_ownIn
  refine r_isX x1 (.ty _) x6 ?_
  k_ownIn
  exact q _ (by k_subL)
theorem len_law_refused {K : PySem.W.Frag} {vs : List V} {H : Hp} {Q : VK} {E : XK} (h : sp_law_refused K vs H Q E) : vs.length = 3 := by
  first | (obtain ⟨rfl, _⟩ := h; rfl) | (obtain ⟨_, rfl, _⟩ := h; rfl) | (obtain ⟨_, _, rfl, _⟩ := h; rfl) | (obtain ⟨_, _, _, rfl, _⟩ := h; rfl) | (obtain ⟨_, _, _, _, rfl, _⟩ := h; rfl) | (obtain ⟨_, _, _, _, _, rfl, _⟩ := h; rfl) | (obtain ⟨_, _, _, _, _, _, rfl, _⟩ := h; rfl) | (obtain ⟨_, _, _, _, _, _, _, rfl, _⟩ := h; rfl) | (obtain ⟨_, _, _, _, _, _, _, _, rfl, _⟩ := h; rfl) | (obtain ⟨_, _, _, _, _, _, _, _, _, rfl, _⟩ := h; rfl) | (obtain ⟨_, _, _, _, _, _, _, _, _, _, rfl, _⟩ := h; rfl) | (obtain ⟨_, _, _, _, _, _, _, _, _, _, _, rfl, _⟩ := h; rfl) | (obtain ⟨_, _, _, _, _, _, _, _, _, _, _, _, rfl, _⟩ := h; rfl) | (obtain ⟨_, _, _, _, _, _, _, _, _, _, _, _, _, rfl, _⟩ := h; rfl)
/-! ### _law_no_minutes -/
def sp_law_no_minutes (K : PySem.W.Frag) : Sp := fun vs H Q _ => ∃ m : Int, vs = [.int m] ∧ 0 < m ∧ ∀ p xs H', xs.length = 10 → (∀ v ∈ xs, Odd (fun k => intOf 0 (m - 1) k = none) H H' v) → H p = none → H' p = some (.lst xs) → Same H H' → Q (.ref p) H'
theorem sp_no_minutes_use {K : PySem.W.Frag} {H : Hp} {Q : VK} {E : XK} {m : Int} (h0 : 0 < m) (q : ∀ p xs H', xs.length = 10 → (∀ v ∈ xs, Odd (fun k => intOf 0 (m - 1) k = none) H H' v) → H p = none → H' p = some (.lst xs) → Same H H' → Q (.ref p) H') : sp_law_no_minutes K [.int m] H Q E := ⟨m, rfl, h0, q⟩
local macro_rules | `(tactic| kas_types) => `(tactic| ((with_reducible refine' sp_no_minutes_use ?h0 (fun p xs H' lx hx hp hq sm => ?_)); (case h0 => omega)))
def t_law_no_minutes (K : PySem.W.Frag) : TS :=
  (tRet (tLst (tCons (tUn (rU fun i => .int (-i)) (tC (.int 1))) (tCons (tVar 0) (tCons (tOp (rI0 fun i j => .int (i + j)) (tVar 0) (tC (.int 5))) (tCons (tC (.bl true)) (tCons (tC (.bl false)) (tCons (tC .non) (tCons (tC (.str "5")) (tCons (tLst (tCons (tC (.int 5)) tNil)) (tCons (tTup (tCons (tC (.int 5)) tNil)) (tCons (tUn (rU fun i => .int (-i)) (tC (.int 1000000))) tNil))))))))))))
theorem run_law_no_minutes {K : PySem.W.Frag} {vs : List V} {H : Hp} {Q : VK} {E : XK} (h : sp_law_no_minutes K vs H Q E) : t_law_no_minutes K (Ends.mk (fun _ H' => Q .non H') Q (fun _ _ => False) (fun _ _ => False)) (start ["_law_many"] vs) H := by
  obtain ⟨m, rfl, h0, q⟩ := h
  unfold t_law_no_minutes
  k_ownIn
  rename_i a ha t ht p hp
  have ht0 := upd_none ht
  have hp0 := upd_none (upd_none hp)
  refine q p _ _ rfl ?_ hp0 upd_same (by k_subL)
  intro x hx
  have io : ∀ {i : Int}, (i < 0 ∨ m - 1 < i) → intOf 0 (m - 1) (.int i) = none := fun {i} z => by
    show (if _ then _ else _) = _
    rw [if_neg (by omega)]
  simp only [List.mem_cons, List.not_mem_nil, or_false] at hx
  rcases hx with rfl | rfl | rfl | rfl | rfl | rfl | rfl | rfl | rfl | rfl
  · exact ⟨.int _, rfl, io (by omega), trivial, new_int⟩
  · exact ⟨.int _, rfl, io (by omega), trivial, new_int⟩
  · exact ⟨.int _, rfl, io (by omega), trivial, new_int⟩
  · exact ⟨.bl _, rfl, rfl, trivial, new_bl⟩
  · exact ⟨.bl _, rfl, rfl, trivial, new_bl⟩
  · exact ⟨.non, rfl, rfl, trivial, new_non⟩
  · exact ⟨.str _, rfl, rfl, trivial, new_str⟩
  · exact ⟨.lst a [.int 5], rfl, rfl, by show _ = some (HO.lst [V.int 5]); kcj_m, new_lst ha⟩
  · exact ⟨.tup t [.int 5], rfl, rfl, by show _ = some (HO.tup [V.int 5]); kcj_m, new_tup ht0⟩
  · exact ⟨.int _, rfl, io (by omega), trivial, new_int⟩
theorem len_law_no_minutes {K : PySem.W.Frag} {vs : List V} {H : Hp} {Q : VK} {E : XK} (h : sp_law_no_minutes K vs H Q E) : vs.length = 1 := by
  first | (obtain ⟨rfl, _⟩ := h; rfl) | (obtain ⟨_, rfl, _⟩ := h; rfl) | (obtain ⟨_, _, rfl, _⟩ := h; rfl) | (obtain ⟨_, _, _, rfl, _⟩ := h; rfl) | (obtain ⟨_, _, _, _, rfl, _⟩ := h; rfl) | (obtain ⟨_, _, _, _, _, rfl, _⟩ := h; rfl) | (obtain ⟨_, _, _, _, _, _, rfl, _⟩ := h; rfl) | (obtain ⟨_, _, _, _, _, _, _, rfl, _⟩ := h; rfl) | (obtain ⟨_, _, _, _, _, _, _, _, rfl, _⟩ := h; rfl) | (obtain ⟨_, _, _, _, _, _, _, _, _, rfl, _⟩ := h; rfl) | (obtain ⟨_, _, _, _, _, _, _, _, _, _, rfl, _⟩ := h; rfl) | (obtain ⟨_, _, _, _, _, _, _, _, _, _, _, rfl, _⟩ := h; rfl) | (obtain ⟨_, _, _, _, _, _, _, _, _, _, _, _, rfl, _⟩ := h; rfl) | (obtain ⟨_, _, _, _, _, _, _, _, _, _, _, _, _, rfl, _⟩ := h; rfl)
/-! ### law -/
theorem mk_Hour {K : PySem.W.Frag} {H : Hp} {P : Hp → Prop} {E : XK} {n : Int} {x dx : Addr} (h0 : 0 ≤ n) (h1 : n ≤ 59) (nx : H x = none) (nd : H dx = none ∧ dx ≠ x) (q : ∀ H', Same H H' → H' x = some (.ins (ga K "Hour") dx [("minute", .int n)]) → P H') :
    sp_Hour_init K [.ref x, .int n] (upd (upd H dx (.own x)) x (.ins (ga K "Hour") dx [])) (fun v H2 => v = .non ∧ P H2) E :=
  sp_Hour_kd (.int n) upd_same trivial (fun m hm H' kp hx => ⟨rfl, by rw [intOf_int h0 h1] at hm; cases hm; exact q H' (same_made nx nd.1 kp) hx⟩) (fun hb => by rw [intOf_int h0 h1] at hb; cases hb)
theorem mk_Day {K : PySem.W.Frag} {H : Hp} {P : Hp → Prop} {E : XK} {n : Int} {x dx : Addr} (h0 : 0 ≤ n) (h1 : n ≤ 1439) (nx : H x = none) (nd : H dx = none ∧ dx ≠ x) (q : ∀ H', Same H H' → H' x = some (.ins (ga K "Day") dx [("minute", .int n)]) → P H') :
    sp_Day_init K [.ref x, .int n] (upd (upd H dx (.own x)) x (.ins (ga K "Day") dx [])) (fun v H2 => v = .non ∧ P H2) E :=
  sp_Day_kd (.int n) upd_same trivial (fun m hm H' kp hx => ⟨rfl, by rw [intOf_int h0 h1] at hm; cases hm; exact q H' (same_made nx nd.1 kp) hx⟩) (fun hb => by rw [intOf_int h0 h1] at hb; cases hb)
local macro_rules | `(tactic| kas_types) => `(tactic| ((with_reducible refine' mk_Hour ?h0 ?h1 ?nx ?nd (fun H' sm hx => ?_)); (case h0 => omega); (case h1 => omega); (case nx => assumption); (case nd => assumption)))
local macro_rules | `(tactic| kas_types) => `(tactic| ((with_reducible refine' mk_Day ?h0 ?h1 ?nx ?nd (fun H' sm hx => ?_)); (case h0 => omega); (case h1 => omega); (case nx => assumption); (case nd => assumption)))
def sp_law (K : PySem.W.Frag) : Sp := fun vs H Q _ => ∃ (a : Addr) (ns : List Int), vs = [.ref a] ∧ SqL K H a (ns.map V.int) ∧ ns.length ≤ 63 ∧ ∀ H', Q (.bl true) H'
def t_law (K : PySem.W.Frag) : TS :=
  (tSeq (tFor (iList K (tOp rCat (tLst (tCons (tC (.int 0)) tNil)) (tSl (rSlL K) (tVar 0) tNoPart (tPart (tC (.int 12)))))) (gName 1)
    (tSeq (tAsg (tCall (sp_law_begin K) [] E0 (tCons (tVar 1) tNil)) (gName 2))
    (tSeq (tAsg (tCall (sp_law_moment K) [] E0 (tCons (tVar 2) tNil)) (gName 3))
    (tSeq (tAsg (tOp (rI0 fun i j => .int (i - j)) (tCall (sp_law_edge K) [] E0 (tCons (tVar 2) (tCons (tC (.int 2879)) tNil))) (tC (.int 1439))) (gName 4))
    (tSeq (tAsg (tCall (sp_law_edge K) [] E0 (tCons (tVar 2) (tCons (tC (.int 60)) tNil))) (gName 5))
    (tSeq (tAsg (tCall (sp_law_edge K) [] E0 (tCons (tVar 2) (tCons (tC (.int 1440)) tNil))) (gName 6))
    (tSeq (tAsg (tLst (tCons (tMake0 (ga K "Now")) (tCons (tMake (ga K "Hour") (sp_Hour_init K) [] E0 (tCons (tVar 5) tNil)) (tCons (tMake (ga K "Day") (sp_Day_init K) [] E0 (tCons (tVar 6) tNil)) (tCons (tMake0 (ga K "Never")) tNil))))) (gName 7))
    (tSeq (tIfS (tNot (tB (tCall (sp_law_made_right K) [] E0 (tCons (tVar 7) (tCons (tVar 5) (tCons (tVar 6) tNil)))))) (tRet (tC (.bl false))) tNext)
    (tSeq (tAsg (tLst (tCons (tTup (tCons (tVar 3) (tCons (tVar 4) tNil))) (tCons (tTup (tCons (tCall (sp_law_moment K) [] E0 (tCons (tVar 2) tNil)) (tCons (tOp (rI0 fun i j => .int (i - j)) (tCall (sp_law_edge K) [] E0 (tCons (tVar 2) (tCons (tC (.int 2879)) tNil))) (tC (.int 1439))) tNil))) tNil))) (gName 8))
    (tSeq (tFor (iList K (tOp rCat (tVar 8) (tSl (rSlL K) (tVar 8) tNoPart (tPart (tC (.int 1)))))) (gTup K 2 (gCons (gName 3) (gCons (gName 4) gNil)))
    (tSeq (tAsg (tAlt (tMeth (ga K "Now") "moment_from" (sp_Now_moment_from K) [] E0 (tOp (rIx K) (tVar 7) (tC (.int 0))) (tCons (tVar 3) (tCons (tVar 4) tNil))) (tAlt (tMeth (ga K "Hour") "moment_from" (sp_Hour_moment_from K) [] E0 (tOp (rIx K) (tVar 7) (tC (.int 0))) (tCons (tVar 3) (tCons (tVar 4) tNil))) (tAlt (tMeth (ga K "Day") "moment_from" (sp_Day_moment_from K) [] E0 (tOp (rIx K) (tVar 7) (tC (.int 0))) (tCons (tVar 3) (tCons (tVar 4) tNil))) (tMeth (ga K "Never") "moment_from" (sp_Never_moment_from K) [] E0 (tOp (rIx K) (tVar 7) (tC (.int 0))) (tCons (tVar 3) (tCons (tVar 4) tNil)))))) (gName 9))
    (tSeq (tIfS (tOr (tNot (tB (tCall (sp_law_whole K) [] E0 (tCons (tVar 9) tNil)))) (tOr (tTest (tOp rNe (tVar 9) (tVar 3))) (tTest (tOp rNotN (tAlt (tMeth (ga K "Now") "moment_from" (sp_Now_moment_from K) [] E0 (tOp (rIx K) (tVar 7) (tC (.int 3))) (tCons (tVar 3) (tCons (tVar 4) tNil))) (tAlt (tMeth (ga K "Hour") "moment_from" (sp_Hour_moment_from K) [] E0 (tOp (rIx K) (tVar 7) (tC (.int 3))) (tCons (tVar 3) (tCons (tVar 4) tNil))) (tAlt (tMeth (ga K "Day") "moment_from" (sp_Day_moment_from K) [] E0 (tOp (rIx K) (tVar 7) (tC (.int 3))) (tCons (tVar 3) (tCons (tVar 4) tNil))) (tMeth (ga K "Never") "moment_from" (sp_Never_moment_from K) [] E0 (tOp (rIx K) (tVar 7) (tC (.int 3))) (tCons (tVar 3) (tCons (tVar 4) tNil)))))) (tC .non))))) (tRet (tC (.bl false))) tNext)
    (tSeq (tIfS (tNot (tB (tCall (sp_law_next_right K) [] E0 (tCons (tAlt (tMeth (ga K "Now") "moment_from" (sp_Now_moment_from K) [] E0 (tOp (rIx K) (tVar 7) (tC (.int 1))) (tCons (tVar 3) (tCons (tVar 4) tNil))) (tAlt (tMeth (ga K "Hour") "moment_from" (sp_Hour_moment_from K) [] E0 (tOp (rIx K) (tVar 7) (tC (.int 1))) (tCons (tVar 3) (tCons (tVar 4) tNil))) (tAlt (tMeth (ga K "Day") "moment_from" (sp_Day_moment_from K) [] E0 (tOp (rIx K) (tVar 7) (tC (.int 1))) (tCons (tVar 3) (tCons (tVar 4) tNil))) (tMeth (ga K "Never") "moment_from" (sp_Never_moment_from K) [] E0 (tOp (rIx K) (tVar 7) (tC (.int 1))) (tCons (tVar 3) (tCons (tVar 4) tNil)))))) (tCons (tVar 3) (tCons (tVar 4) (tCons (tVar 5) (tCons (tC (.int 60)) tNil)))))))) (tRet (tC (.bl false))) tNext)
    (tIfS (tNot (tB (tCall (sp_law_next_right K) [] E0 (tCons (tAlt (tMeth (ga K "Now") "moment_from" (sp_Now_moment_from K) [] E0 (tOp (rIx K) (tVar 7) (tC (.int 2))) (tCons (tVar 3) (tCons (tVar 4) tNil))) (tAlt (tMeth (ga K "Hour") "moment_from" (sp_Hour_moment_from K) [] E0 (tOp (rIx K) (tVar 7) (tC (.int 2))) (tCons (tVar 3) (tCons (tVar 4) tNil))) (tAlt (tMeth (ga K "Day") "moment_from" (sp_Day_moment_from K) [] E0 (tOp (rIx K) (tVar 7) (tC (.int 2))) (tCons (tVar 3) (tCons (tVar 4) tNil))) (tMeth (ga K "Never") "moment_from" (sp_Never_moment_from K) [] E0 (tOp (rIx K) (tVar 7) (tC (.int 2))) (tCons (tVar 3) (tCons (tVar 4) tNil)))))) (tCons (tVar 3) (tCons (tVar 4) (tCons (tVar 6) (tCons (tC (.int 1440)) tNil)))))))) (tRet (tC (.bl false))) tNext)))))
    (tSeq (tAsg (tOp (rIx K) (tCall (sp_law_no_zones K) [] E0 tNil) (tCall (sp_law_next K) [] E0 (tCons (tVar 2) (tCons (tC (.int 9)) tNil)))) (gName 10))
    (tSeq (tIfS (tTest (tOp (rNeD K) (tLc (iList K (tVar 7)) (gName 14) (tNot (tB (tCall (sp_law_refused K) [] E0 (tCons (tC (.str "zone")) (tCons (tVar 10) (tCons (tVar 14) tNil)))))) (tVar 14) [14]) (tLst tNil))) (tRet (tC (.bl false))) tNext)
    (tSeq (tAsg (tCall (sp_law_next K) [] E0 (tCons (tVar 2) (tCons (tC (.int 10)) tNil))) (gName 11))
    (tFor (iList K (tLst (tCons (tTup (tCons (tC (.str "hour")) (tCons (tC (.int 60)) tNil))) (tCons (tTup (tCons (tC (.str "day")) (tCons (tC (.int 1440)) tNil))) tNil)))) (gTup K 2 (gCons (gName 12) (gCons (gName 13) gNil)))
    (tIfS (tNot (tB (tCall (sp_law_refused K) [] E0 (tCons (tVar 12) (tCons (tOp (rIx K) (tCall (sp_law_no_minutes K) [] E0 (tCons (tVar 13) tNil)) (tVar 11)) (tCons (tC .non) tNil)))))) (tRet (tC (.bl false))) tNext)))))))))))))))
    (tRet (tC (.bl true))))
theorem run_law {K : PySem.W.Frag} {vs : List V} {H : Hp} {Q : VK} {E : XK} (h : sp_law K vs H Q E) : t_law K (Ends.mk (fun _ H' => Q .non H') Q (fun _ _ => False) (fun _ _ => False)) (start ["_law_script", "_law_cell", "_law_state", "_law_moment_here", "_law_zone", "_law_one", "_law_other", "_law_ways", "_law_asked_here", "_law_found", "_law_bad", "_law_at", "_law_word", "_law_many", "_law_way"] vs) H := by
  obtain ⟨a, ns, rfl, hS, hlen, q⟩ := h
  unfold t_law
  k_ownIn
  refine r_loopL (fun i σ' H' => (∃ v1 v2 v3 v4 v5 v6 v7 v8 v9 v10 v11 v12 v13 v14 : Option V, σ' = [some (.ref a), v1, v2, v3, v4, v5, v6, v7, v8, v9, v10, v11, v12, v13, v14]) ∧ Same _ H') (SqL.of upd_same) ⟨⟨_, _, _, _, _, _, _, _, _, _, _, _, _, _, rfl⟩, Same.refl _⟩ (fun i σ' H' p => Same.seq p.2 (SqL.of upd_same)) ?_ ?_
  · rintro i x σ' H' N hx ⟨⟨v1, v2, v3, v4, v5, v6, v7, v8, v9, v10, v11, v12, v13, v14, rfl⟩, hs⟩ hN
    obtain ⟨c, rfl⟩ := cells_int (List.mem_of_getElem? hx)
    generalize upd (upd (upd H _ _) _ _) _ _ = H1 at hs hN
    k_ownIn
    kpt_turns
    k_ownIn
    rename_i ps w0 hps m wm Hm hlm kpm zz wz Hz z0 z1 hlz kpz n wn Hn n0 n1 hln kpn o wo Ho o0 o1 hlo kpo a0 d0 G0 na0 s0 e0 a1 d1 na1 nd1 G1 s1 e1 a2 d2 na2 nd2 G2 s2 e2 a3 d3 G3 na3 s3 e3 pw npw
    have hW : Ways K (upd G3 pw (.lst [.ref a0, .ref a1, .ref a2, .ref a3])) n o pw [.ref a0, .ref a1, .ref a2, .ref a3] := by
      refine ⟨upd_same, rfl, fun i v e => ?_⟩
      match i, e with
      | 0, e => cases e; exact .now (dx := d0) (by kcj_m)
      | 1, e => cases e; exact .hour (dx := d1) (by kcj_m) n0 (by omega)
      | 2, e => cases e; exact .day (dx := d2) (by kcj_m) o0 (by omega)
      | 3, e => cases e; exact .never (dx := d3) (by kcj_m)
      | i + 4, e => simp at e
    have npp : pw ≠ ps := by k_clsL
    have hl4 : upd G3 pw (.lst [.ref a0, .ref a1, .ref a2, .ref a3]) ps = some wo.o := by kcj_m
    have kp4 : Kp ps (upd H' ps w0.o) (upd G3 pw (.lst [.ref a0, .ref a1, .ref a2, .ref a3])) := by k_subL
    generalize upd G3 pw (.lst [.ref a0, .ref a1, .ref a2, .ref a3]) = G4 at hW hl4 kp4
    clear npw e0 e1 e2 e3 s0 s1 s2 s3 na0 na1 na2 na3 nd1 nd2 kpm kpz kpn kpo hlm hlz hln hlo
    refine sp_made_kd hW (fun H5 s5 => ?_)
    have hW := hW.same s5
    have hl5 := s5 _ _ hl4
    have kp5 : Kp ps (upd H' ps w0.o) H5 := by k_subL
    clear s5 kp4 hl4
    k_ownIn
    rename_i t1 ht1 m2 wm2 Hm2 hlm2 kpm2 z2 wz2 Hz2 z20 z21 hlz2 kpz2 t2 ht2 pa hpa pb hpb
    rw [show cutV [V.ref t1, V.ref t2] none (some 1) = [V.ref t1] from rfl]
    k_ownIn
    rename_i pc hpc
    have hWc : Ways K (upd (upd (upd (upd Hz2 t2 (.tup [.int m2, .int (z2 - 1439)])) pa (.lst [.ref t1, .ref t2])) pb (.lst [.ref t1])) pc (.lst ([.ref t1, .ref t2] ++ [.ref t1]))) n o pw [.ref a0, .ref a1, .ref a2, .ref a3] :=
      (((hW.same (Same.new (Same.refl H5) ht1)).kp kpm2 (by kcj_m) npp).kp kpz2 hlm2 npp).same (by k_subL)
    have hit : ∀ x ∈ ([.ref t1, .ref t2] ++ [.ref t1] : List V), ∃ t mm z, x = .ref t ∧ (upd (upd (upd (upd Hz2 t2 (.tup [.int m2, .int (z2 - 1439)])) pa (.lst [.ref t1, .ref t2])) pb (.lst [.ref t1])) pc (.lst ([.ref t1, .ref t2] ++ [.ref t1]))) t = some (.tup [.int mm, .int z]) ∧ -1439 ≤ z ∧ z ≤ 1439 := by
      intro x hx
      simp only [List.cons_append, List.nil_append, List.mem_cons, List.not_mem_nil, or_false] at hx
      rcases hx with rfl | rfl | rfl
      · exact ⟨t1, m, zz - 1439, rfl, by kcj_m, by omega, by omega⟩
      · exact ⟨t2, m2, z2 - 1439, rfl, by kcj_m, by omega, by omega⟩
      · exact ⟨t1, m, zz - 1439, rfl, by kcj_m, by omega, by omega⟩
    have hlc : (upd (upd (upd (upd Hz2 t2 (.tup [.int m2, .int (z2 - 1439)])) pa (.lst [.ref t1, .ref t2])) pb (.lst [.ref t1])) pc (.lst ([.ref t1, .ref t2] ++ [.ref t1]))) ps = some wz2.o := by kcj_m
    have kpc : Kp ps (upd H' ps w0.o) (upd (upd (upd (upd Hz2 t2 (.tup [.int m2, .int (z2 - 1439)])) pa (.lst [.ref t1, .ref t2])) pb (.lst [.ref t1])) pc (.lst ([.ref t1, .ref t2] ++ [.ref t1]))) := by k_subL
    have hpc2 : (upd (upd (upd (upd Hz2 t2 (.tup [.int m2, .int (z2 - 1439)])) pa (.lst [.ref t1, .ref t2])) pb (.lst [.ref t1])) pc (.lst ([.ref t1, .ref t2] ++ [.ref t1]))) pc = some (.lst ([.ref t1, .ref t2] ++ [.ref t1])) := upd_same
    clear hpc hpb hpa ht2 ht1 kpz2 kpm2 hlz2 hlm2 hW hl5 kp5
    generalize upd (upd (upd (upd Hz2 _ _) _ _) _ _) _ _ = Hc at hWc hit hlc kpc hpc2 ⊢
    refine r_loopL (fun i σ' H' => (∃ v3 v4 v9 : Option V, σ' = [some (.ref a), some (.int c), some (.ref ps), v3, v4, some (.int n), some (.int o), some (.ref pw), some (.ref pa), v9, v10, v11, v12, v13, v14]) ∧ Same Hc H') (SqL.of hpc2) ⟨⟨_, _, _, rfl⟩, Same.refl _⟩ (fun i σ' H' p => Same.seq p.2 (SqL.of hpc2)) ?_ ?_
    · rintro i x σ' Ht N hx ⟨⟨v3, v4, v9, rfl⟩, hst⟩ hNt
      obtain ⟨t, mm, z, rfl, ht, hz0, hz1⟩ := hit x (List.mem_of_getElem? hx)
      have ht := hst _ _ ht
      have hWt := hWc.same hst
      have hpw := hWt.l
      have x0 := hWt.at_ 0 _ rfl
      have x1 := hWt.at_ 1 _ rfl
      have x2 := hWt.at_ 2 _ rfl
      have x3 := hWt.at_ 3 _ rfl
      clear hWt hWc hit
      cases x0 with | now x0 =>
      cases x1 with | hour x1 _ _ =>
      cases x2 with | day x2 _ _ =>
      cases x3 with | never x3 =>
      k_ownIn
      refine r_altL ?_
      k_ownIn
      kpt_turns
      k_ownIn
      refine r_altR (r_altR (r_altR ?_))
      k_ownIn
      kpt_turns
      k_ownIn
      refine r_altR (r_altL ?_)
      k_ownIn
      kpt_turns
      k_ownIn
      refine r_altR (r_altR (r_altL ?_))
      k_ownIn
      exact hNt _ _ ⟨⟨_, _, _, rfl⟩, by k_subL⟩
    · rintro σ' Ht ⟨⟨v3, v4, v9, rfl⟩, hst⟩
      have hWt := hWc.same hst
      have hlt := hst _ _ hlc
      have kpt : Kp ps (upd H' ps w0.o) Ht := Kp.same kpc hst
      k_ownIn
      rename_i pz xz Hz9 lx hxz npz hqz smz vz wz9 vz0 vz1
      have hl9 := smz _ _ hlt
      have kp9 : Kp ps Hz9 (upd Hz9 ps wz9.o) := Kp.upd (Kp.refl _ _)
      have hW9 := (hWt.same smz).kp kp9 hl9 npp
      refine r_ixA (fun v => ∃ k : Kd, v = k.v ∧ zoneOf k = none ∧ k.typ (upd Hz9 ps wz9.o)) (by k_places) (by omega) (by rw [lx]; omega) ?_ ?_
      · intro v hv
        obtain ⟨k, rfl, hk, tk, nk⟩ := hxz v hv
        exact ⟨k, rfl, hk, tk.kp kp9 hl9 (nk.ne hlt)⟩
      rintro v ⟨k, rfl, hk, tk⟩
      have hl10 : upd Hz9 ps wz9.o ps = some wz9.o := upd_same
      have kp10 : Kp ps (upd H' ps w0.o) (upd Hz9 ps wz9.o) := Kp.upd (Kp.same kpt smz)
      clear hxz hqz npz hWt hlt kpt hl9 kp9 smz hWc hit hlc kpc
      generalize upd Hz9 ps wz9.o = HA at hW9 tk hl10 kp10 ⊢
      k_ownIn
      kpt_turns
      k_ownIn
      refine r_lcN (SqL.of hW9.l) (fun x => rfl) (fun x H1 B hx s1 hB => ?_) (fun D H1 nD s1 hD => ?_)
      · obtain ⟨i, hi⟩ := List.mem_iff_getElem?.mp hx
        k_ownIn
        refine sp_refused_kd k (tk.same s1) (.inr (.inr ⟨rfl, hk, n, o, i, (hW9.at_ i x hi).same s1⟩)) (fun H2 s2 => ?_)
        k_ownIn
        exact hB H2 s2
      k_ownIn
      rename_i pn hpn av wv av0 av1 th hth td htd pl hpl
      have it1 : (upd (upd (upd (upd (upd H1 pn (.lst [])) ps wv.o) th (.tup [.str "hour", .int 60])) td (.tup [.str "day", .int 1440])) pl (.lst [.ref th, .ref td])) th = some (.tup [.str "hour", .int 60]) := by kcj_m
      have it2 : (upd (upd (upd (upd (upd H1 pn (.lst [])) ps wv.o) th (.tup [.str "hour", .int 60])) td (.tup [.str "day", .int 1440])) pl (.lst [.ref th, .ref td])) td = some (.tup [.str "day", .int 1440]) := by kcj_m
      have kpl : Kp ps (upd H' ps w0.o) (upd (upd (upd (upd (upd H1 pn (.lst [])) ps wv.o) th (.tup [.str "hour", .int 60])) td (.tup [.str "day", .int 1440])) pl (.lst [.ref th, .ref td])) := by k_subL
      have itl : (upd (upd (upd (upd (upd H1 pn (.lst [])) ps wv.o) th (.tup [.str "hour", .int 60])) td (.tup [.str "day", .int 1440])) pl (.lst [.ref th, .ref td])) pl = some (.lst [.ref th, .ref td]) := upd_same
      clear hpl htd hth hpn hD nD s1 hl10 kp10 tk hW9
      generalize upd (upd (upd (upd (upd H1 _ _) _ _) _ _) _ _) _ _ = HB at it1 it2 itl kpl ⊢
      refine r_loopL (fun i σ' H' => (∃ v12 v13 : Option V, σ' = [some (.ref a), some (.int c), some (.ref ps), v3, v4, some (.int n), some (.int o), some (.ref pw), some (.ref pa), v9, some k.v, some (.int av), v12, v13, v14]) ∧ Same HB H') (SqL.of itl) ⟨⟨_, _, rfl⟩, Same.refl _⟩ (fun i σ' H' p => Same.seq p.2 (SqL.of itl)) ?_ ?_
      · rintro i x σ' Hb N2 hx ⟨⟨v12, v13, rfl⟩, hsb⟩ hN2
        have hx := List.mem_of_getElem? hx
        simp only [List.mem_cons, List.not_mem_nil, or_false] at hx
        have it1 := hsb _ _ it1
        have it2 := hsb _ _ it2
        rcases hx with rfl | rfl
        · k_ownIn
          kpt_turns
          k_ownIn
          rename_i pm xm Hm9 lm hxm npm hqm smm
          refine r_ixA (fun v => ∃ k : Kd, v = k.v ∧ intOf 0 (60 - 1) k = none ∧ k.typ Hm9) (by k_places) (by omega) (by rw [lm]; omega) ?_ ?_
          · intro v hv
            obtain ⟨k, rfl, hk, tk, nk⟩ := hxm v hv
            exact ⟨k, rfl, hk, tk⟩
          rintro v ⟨k2, rfl, hk2, tk2⟩
          k_ownIn
          refine sp_refused_kd k2 tk2 (.inl ⟨rfl, hk2⟩) (fun H2 s2 => ?_)
          k_ownIn
          exact hN2 _ _ ⟨⟨_, _, rfl⟩, by k_subL⟩
        · k_ownIn
          kpt_turns
          k_ownIn
          rename_i pm xm Hm9 lm hxm npm hqm smm
          refine r_ixA (fun v => ∃ k : Kd, v = k.v ∧ intOf 0 (1440 - 1) k = none ∧ k.typ Hm9) (by k_places) (by omega) (by rw [lm]; omega) ?_ ?_
          · intro v hv
            obtain ⟨k, rfl, hk, tk, nk⟩ := hxm v hv
            exact ⟨k, rfl, hk, tk⟩
          rintro v ⟨k2, rfl, hk2, tk2⟩
          k_ownIn
          refine sp_refused_kd k2 tk2 (.inr (.inl ⟨rfl, hk2⟩)) (fun H2 s2 => ?_)
          k_ownIn
          exact hN2 _ _ ⟨⟨_, _, rfl⟩, by k_subL⟩
      · rintro σ' Hb ⟨⟨v12, v13, rfl⟩, hsb⟩
        k_ownIn
        exact hN _ _ ⟨⟨_, _, _, _, _, _, _, _, _, _, _, _, _, _, rfl⟩, Same.ofKp hs hps (Kp.same kpl hsb)⟩
  · rintro σ' H' ⟨⟨v1, v2, v3, v4, v5, v6, v7, v8, v9, v10, v11, v12, v13, v14, rfl⟩, hs⟩
    k_ownIn
    exact q _
theorem len_law {K : PySem.W.Frag} {vs : List V} {H : Hp} {Q : VK} {E : XK} (h : sp_law K vs H Q E) : vs.length = 1 := by
  first | (obtain ⟨rfl, _⟩ := h; rfl) | (obtain ⟨_, rfl, _⟩ := h; rfl) | (obtain ⟨_, _, rfl, _⟩ := h; rfl) | (obtain ⟨_, _, _, rfl, _⟩ := h; rfl) | (obtain ⟨_, _, _, _, rfl, _⟩ := h; rfl) | (obtain ⟨_, _, _, _, _, rfl, _⟩ := h; rfl) | (obtain ⟨_, _, _, _, _, _, rfl, _⟩ := h; rfl) | (obtain ⟨_, _, _, _, _, _, _, rfl, _⟩ := h; rfl) | (obtain ⟨_, _, _, _, _, _, _, _, rfl, _⟩ := h; rfl) | (obtain ⟨_, _, _, _, _, _, _, _, _, rfl, _⟩ := h; rfl) | (obtain ⟨_, _, _, _, _, _, _, _, _, _, rfl, _⟩ := h; rfl) | (obtain ⟨_, _, _, _, _, _, _, _, _, _, _, rfl, _⟩ := h; rfl) | (obtain ⟨_, _, _, _, _, _, _, _, _, _, _, _, rfl, _⟩ := h; rfl) | (obtain ⟨_, _, _, _, _, _, _, _, _, _, _, _, _, rfl, _⟩ := h; rfl)
section
variable {P : Program} {w : World} {K : PySem.W.Frag} {mg : Str → Option Value} {base : Heap}
theorem sc_law_begin : FnScope ["_law_cell"] ["_law_cell"] (defScope s_law_begin) := ⟨rfl, rfl, rfl, by decide +kernel, rfl, by decide +kernel, by decide +kernel⟩
theorem okA_law_begin (Z : Env K mg) {fd : FuncData} (F : FunD K d_law_begin.name d_law_begin.qual d_law_begin.params d_law_begin.body d_law_begin.scope (d_law_begin.dvs K) (d_law_begin.kws K) (fAd K d_law_begin.at_) fd) : FnOk P w K mg base CX0 1 (ga K "_law_begin") fd ["_law_cell"] (sp_law_begin K) := by
  refine F.ok (CX := CX0) sc_law_begin (fun vs H Q E h => len_law_begin h) (fun cdv A outer s H vs Q E hr h => ⟨t_law_begin K, PSs.nox ?_, run_law_begin h⟩)
  exact (pss_one (ps_ret (pe_lst (pa_cons (pe_op op_mul (pe_op op_fdiv (pv 0) pe_int) (pe_op op_sub pe_int (pe_op op_mod (pv 0) pe_int))) (pa_cons (pe_op op_mod (pv 0) pe_int) (pa_cons pe_int pa_nil))))))
theorem ok_law_begin (Z : Env K mg) : ∃ fd, FnOk P w K mg base CX0 1 (ga K "_law_begin") fd ["_law_cell"] (sp_law_begin K) ∧ Binds K fd ["_law_cell"] [] ∧ PySem.W.keepIn K (.ref (ga K "_law_begin")) = true := by
  obtain ⟨fd, F⟩ := Z.c.def_ 0 (d := d_law_begin) rfl
  exact ⟨fd, okA_law_begin Z F, F.bindsN fun _ _ _ _ _ _ us hl => match us, hl with | [_], _ => rfl, F.kp⟩
theorem sc_law_next : FnScope ["_law_state", "_law_base", "_law_found", "_law_number"] ["_law_state", "_law_base"] (defScope s_law_next) := ⟨rfl, rfl, rfl, by decide +kernel, rfl, by decide +kernel, by decide +kernel⟩
theorem okA_law_next (Z : Env K mg) {fd : FuncData} (F : FunD K d_law_next.name d_law_next.qual d_law_next.params d_law_next.body d_law_next.scope (d_law_next.dvs K) (d_law_next.kws K) (fAd K d_law_next.at_) fd) : FnOk P w K mg base CX0 1 (ga K "_law_next") fd ["_law_state", "_law_base"] (sp_law_next K) := by
  refine F.ok (CX := CX0) sc_law_next (fun vs H Q E h => len_law_next h) (fun cdv A outer s H vs Q E hr h => ⟨t_law_next K, PSs.nox ?_, run_law_next h⟩)
  exact (pss_cons (ps_if (pt_cmpR op_gt (pe_ix ix_seq (pv 0) pe_int (fun _ _ => rfl)) pe_int (nomark _)) (pss_cons (ps_set (i := 2) sc_law_next.nd rfl (Or.inl rfl) (pe_op op_mod (pe_ix ix_seq (pv 0) pe_int (fun _ _ => rfl)) (pv 1)))
    (pss_cons (ps_asg (pe_op op_fdivW (pe_ix ix_seq (pv 0) pe_int (fun _ _ => rfl)) (pv 1)) (pg_sub (pv 0) pe_int set_list))
    (pss_one (ps_ret (pv 2))))) pss_nil)
    (pss_cons (ps_asg (pe_op op_add (pe_ix ix_seq (pv 0) pe_int (fun _ _ => rfl)) pe_int) (pg_sub (pv 0) pe_int set_list))
    (pss_cons (ps_set (i := 3) sc_law_next.nd rfl (Or.inl rfl) (pe_op op_mod (pe_op op_mul (pe_op op_add (pe_op op_add (pe_ix ix_seq (pv 0) pe_int (fun _ _ => rfl)) (pe_op op_mul pe_int (pe_ix ix_seq (pv 0) pe_int (fun _ _ => rfl)))) pe_int) pe_int) pe_int))
    (pss_cons (ps_set (i := 3) sc_law_next.nd rfl (Or.inl rfl) (pe_op op_mod (pe_op op_mul (pv 3) (pe_op op_add (pe_op op_fdiv (pv 3) pe_int) pe_int)) pe_int))
    (pss_cons (ps_set (i := 3) sc_law_next.nd rfl (Or.inl rfl) (pe_op op_mod (pe_op op_mul (pv 3) (pe_op op_add (pe_op op_fdiv (pv 3) pe_int) pe_int)) pe_int))
    (pss_one (ps_ret (pe_op op_mod (pe_op op_fdiv (pv 3) pe_int) (pv 1)))))))))
theorem ok_law_next (Z : Env K mg) : ∃ fd, FnOk P w K mg base CX0 1 (ga K "_law_next") fd ["_law_state", "_law_base"] (sp_law_next K) ∧ Binds K fd ["_law_state", "_law_base"] [] ∧ PySem.W.keepIn K (.ref (ga K "_law_next")) = true := by
  obtain ⟨fd, F⟩ := Z.c.def_ 1 (d := d_law_next) rfl
  exact ⟨fd, okA_law_next Z F, F.bindsN fun _ _ _ _ _ _ us hl => match us, hl with | [_, _], _ => rfl, F.kp⟩
theorem sc_law_moment : FnScope ["_law_state", "_law_small", "_law_far"] ["_law_state"] (defScope s_law_moment) := ⟨rfl, rfl, rfl, by decide +kernel, rfl, by decide +kernel, by decide +kernel⟩
theorem okA_law_moment (Z : Env K mg) {fd : FuncData} (F : FunD K d_law_moment.name d_law_moment.qual d_law_moment.params d_law_moment.body d_law_moment.scope (d_law_moment.dvs K) (d_law_moment.kws K) (fAd K d_law_moment.at_) fd) : FnOk P w K mg base CX0 2 (ga K "_law_moment") fd ["_law_state"] (sp_law_moment K) := by
  obtain ⟨fd_law_next, G_law_next, b_law_next, k_law_next⟩ := ok_law_next (P := P) (w := w) (base := base) Z
  have g__law_next := Z.glo 0 (x := "_law_next") rfl
  refine F.ok (CX := CX0) sc_law_moment (fun vs H Q E h => len_law_moment h) (fun cdv A outer s H vs Q E hr h => ⟨t_law_moment K, PSs.nox ?_, run_law_moment h⟩)
  exact (pss_cons (ps_set (i := 1) sc_law_moment.nd rfl (Or.inl rfl) (pe_op op_sub (pe_call G_law_next (hr.mono (by decide)) rfl g__law_next k_law_next b_law_next .nil pass0 (pa_cons (pv 0) (pa_cons pe_int pa_nil))) pe_int))
    (pss_cons (ps_if (pt_cmpR op_eq (pe_call G_law_next (hr.mono (by decide)) rfl g__law_next k_law_next b_law_next .nil pass0 (pa_cons (pv 0) (pa_cons pe_int pa_nil))) pe_int (nomark _)) (pss_one (ps_ret (pv 1))) pss_nil)
    (pss_cons (ps_set (i := 2) sc_law_moment.nd rfl (Or.inl rfl) (pe_op op_add (pe_op op_mul (pe_call G_law_next (hr.mono (by decide)) rfl g__law_next k_law_next b_law_next .nil pass0 (pa_cons (pv 0) (pa_cons (pe_pow2 (r := 10000000) (by decide) ⟨by decide, by decide, by decide⟩) pa_nil))) (pe_pow2 (r := 1000000) (by decide) ⟨by decide, by decide, by decide⟩)) (pe_call G_law_next (hr.mono (by decide)) rfl g__law_next k_law_next b_law_next .nil pass0 (pa_cons (pv 0) (pa_cons (pe_pow2 (r := 1000000) (by decide) ⟨by decide, by decide, by decide⟩) pa_nil)))))
    (pss_one (ps_ret (pe_op op_mul (pv 2) (pe_op op_sub pe_int (pe_op op_mul pe_int (pe_call G_law_next (hr.mono (by decide)) rfl g__law_next k_law_next b_law_next .nil pass0 (pa_cons (pv 0) (pa_cons pe_int pa_nil)))))))))))
theorem ok_law_moment (Z : Env K mg) : ∃ fd, FnOk P w K mg base CX0 2 (ga K "_law_moment") fd ["_law_state"] (sp_law_moment K) ∧ Binds K fd ["_law_state"] [] ∧ PySem.W.keepIn K (.ref (ga K "_law_moment")) = true := by
  obtain ⟨fd, F⟩ := Z.c.def_ 2 (d := d_law_moment) rfl
  exact ⟨fd, okA_law_moment Z F, F.bindsN fun _ _ _ _ _ _ us hl => match us, hl with | [_], _ => rfl, F.kp⟩
theorem sc_law_edge : FnScope ["_law_state", "_law_many"] ["_law_state", "_law_many"] (defScope s_law_edge) := ⟨rfl, rfl, rfl, by decide +kernel, rfl, by decide +kernel, by decide +kernel⟩
theorem okA_law_edge (Z : Env K mg) {fd : FuncData} (F : FunD K d_law_edge.name d_law_edge.qual d_law_edge.params d_law_edge.body d_law_edge.scope (d_law_edge.dvs K) (d_law_edge.kws K) (fAd K d_law_edge.at_) fd) : FnOk P w K mg base CX0 2 (ga K "_law_edge") fd ["_law_state", "_law_many"] (sp_law_edge K) := by
  obtain ⟨fd_law_next, G_law_next, b_law_next, k_law_next⟩ := ok_law_next (P := P) (w := w) (base := base) Z
  have g__law_next := Z.glo 0 (x := "_law_next") rfl
  refine F.ok (CX := CX0) sc_law_edge (fun vs H Q E h => len_law_edge h) (fun cdv A outer s H vs Q E hr h => ⟨t_law_edge K, PSs.nox ?_, run_law_edge h⟩)
  exact (pss_cons (ps_if (pt_cmpR op_eq (pe_call G_law_next (hr.mono (by decide)) rfl g__law_next k_law_next b_law_next .nil pass0 (pa_cons (pv 0) (pa_cons pe_int pa_nil))) pe_int (nomark _)) (pss_one (ps_ret (pe_ix ix_seq (pe_lst (pa_cons pe_int (pa_cons (pe_op op_sub (pv 1) pe_int) pa_nil))) (pe_call G_law_next (hr.mono (by decide)) rfl g__law_next k_law_next b_law_next .nil pass0 (pa_cons (pv 0) (pa_cons pe_int pa_nil))) (fun _ _ => rfl)))) pss_nil)
    (pss_one (ps_ret (pe_call G_law_next (hr.mono (by decide)) rfl g__law_next k_law_next b_law_next .nil pass0 (pa_cons (pv 0) (pa_cons (pv 1) pa_nil))))))
theorem ok_law_edge (Z : Env K mg) : ∃ fd, FnOk P w K mg base CX0 2 (ga K "_law_edge") fd ["_law_state", "_law_many"] (sp_law_edge K) ∧ Binds K fd ["_law_state", "_law_many"] [] ∧ PySem.W.keepIn K (.ref (ga K "_law_edge")) = true := by
  obtain ⟨fd, F⟩ := Z.c.def_ 3 (d := d_law_edge) rfl
  exact ⟨fd, okA_law_edge Z F, F.bindsN fun _ _ _ _ _ _ us hl => match us, hl with | [_, _], _ => rfl, F.kp⟩
theorem sc_is_whole : FnScope ["thing"] ["thing"] (defScope s_is_whole) := ⟨rfl, rfl, rfl, by decide +kernel, rfl, by decide +kernel, by decide +kernel⟩
theorem okA_is_whole (Z : Env K mg) {fd : FuncData} (F : FunD K d_is_whole.name d_is_whole.qual d_is_whole.params d_is_whole.body d_is_whole.scope (d_is_whole.dvs K) (d_is_whole.kws K) (fAd K d_is_whole.at_) fd) : FnOk P w K mg base CX0 1 (ga K "is_whole") fd ["thing"] (sp_is_whole K) := by
  have z_bool := Z.free 1 (x := "bool") rfl
  have z_int := Z.free 2 (x := "int") rfl
  have z_isinstance := Z.free 3 (x := "isinstance") rfl
  refine F.ok (CX := CX0) sc_is_whole (fun vs H Q E h => len_is_whole h) (fun cdv A outer s H vs Q E hr h => ⟨t_is_whole K, PSs.nox ?_, run_is_whole h⟩)
  exact (pss_one (ps_ret (pe_and (pe_callB call_isi (by rfl) z_isinstance (by decide +kernel) (pa_cons (pv 0) (pa_cons (pe_bltn (v := .ty "int") (by rfl) z_int (by decide +kernel) rfl) pa_nil))) (pe_one (pe_not (pe_callB call_isi (by rfl) z_isinstance (by decide +kernel) (pa_cons (pv 0) (pa_cons (pe_bltn (v := .ty "bool") (by rfl) z_bool (by decide +kernel) rfl) pa_nil))))))))
theorem ok_is_whole (Z : Env K mg) : ∃ fd, FnOk P w K mg base CX0 1 (ga K "is_whole") fd ["thing"] (sp_is_whole K) ∧ Binds K fd ["thing"] [] ∧ PySem.W.keepIn K (.ref (ga K "is_whole")) = true := by
  obtain ⟨fd, F⟩ := Z.c.def_ 4 (d := d_is_whole) rfl
  exact ⟨fd, okA_is_whole Z F, F.bindsN fun _ _ _ _ _ _ us hl => match us, hl with | [_], _ => rfl, F.kp⟩
theorem sc_is_between : FnScope ["thing", "low", "high"] ["thing", "low", "high"] (defScope s_is_between) := ⟨rfl, rfl, rfl, by decide +kernel, rfl, by decide +kernel, by decide +kernel⟩
theorem okA_is_between (Z : Env K mg) {fd : FuncData} (F : FunD K d_is_between.name d_is_between.qual d_is_between.params d_is_between.body d_is_between.scope (d_is_between.dvs K) (d_is_between.kws K) (fAd K d_is_between.at_) fd) : FnOk P w K mg base CX0 2 (ga K "is_between") fd ["thing", "low", "high"] (sp_is_between K) := by
  obtain ⟨fd_is_whole, G_is_whole, b_is_whole, k_is_whole⟩ := ok_is_whole (P := P) (w := w) (base := base) Z
  have g_is_whole := Z.glo 4 (x := "is_whole") rfl
  refine F.ok (CX := CX0) sc_is_between (fun vs H Q E h => len_is_between h) (fun cdv A outer s H vs Q E hr h => ⟨t_is_between K, PSs.nox ?_, run_is_between h⟩)
  exact (pss_one (ps_ret (pe_and (pe_call G_is_whole (hr.mono (by decide)) rfl g_is_whole k_is_whole b_is_whole .nil pass0 (pa_cons (pv 0) pa_nil)) (pe_one (pe_chain op_le op_le (pv 1) (pv 0) (pv 2))))))
theorem ok_is_between (Z : Env K mg) : ∃ fd, FnOk P w K mg base CX0 2 (ga K "is_between") fd ["thing", "low", "high"] (sp_is_between K) ∧ Binds K fd ["thing", "low", "high"] [] ∧ PySem.W.keepIn K (.ref (ga K "is_between")) = true := by
  obtain ⟨fd, F⟩ := Z.c.def_ 5 (d := d_is_between) rfl
  exact ⟨fd, okA_is_between Z F, F.bindsN fun _ _ _ _ _ _ us hl => match us, hl with | [_, _, _], _ => rfl, F.kp⟩
theorem sc_sure_minute : FnScope ["minute", "many"] ["minute", "many"] (defScope s_sure_minute) := ⟨rfl, rfl, rfl, by decide +kernel, rfl, by decide +kernel, by decide +kernel⟩
theorem okA_sure_minute (Z : Env K mg) {fd : FuncData} (F : FunD K d_sure_minute.name d_sure_minute.qual d_sure_minute.params d_sure_minute.body d_sure_minute.scope (d_sure_minute.dvs K) (d_sure_minute.kws K) (fAd K d_sure_minute.at_) fd) : FnOk P w K mg base (L2.CX P w) 3 (ga K "sure_minute") fd ["minute", "many"] (sp_sure_minute K) := by
  obtain ⟨fd_is_between, G_is_between, b_is_between, k_is_between⟩ := ok_is_between (P := P) (w := w) (base := base) Z
  have g_NoClock := Z.glo 5 (x := "NoClock") rfl
  have g_is_between := Z.glo 6 (x := "is_between") rfl
  have x_NoClock := exc_ok (Z.c.fact 7 (f := .exc "NoClock") rfl)
  refine F.ok (CX := (L2.CX P w)) sc_sure_minute (fun vs H Q E h => len_sure_minute h) (fun cdv A outer s H vs Q E hr h => ⟨t_sure_minute K E, ?_, run_sure_minute h⟩)
  exact (pss_one (ps_if (pt_not (pt_val (pe_call G_is_between (hr.mono (by decide)) rfl g_is_between k_is_between b_is_between .nil pass0 (pa_cons (pv 0) (pa_cons pe_int (pa_cons (pe_op op_sub (pv 1) pe_int) pa_nil)))))) (pss_one (ps_raise rfl (takes_of rfl rfl rfl rfl) (pmk_own PySem.F.excBase_ValueError x_NoClock.1 g_NoClock x_NoClock.2.1 (raises_own x_NoClock.2.2.1 x_NoClock.2.2.2) (by exact rfl)))) pss_nil))
theorem ok_sure_minute (Z : Env K mg) : ∃ fd, FnOk P w K mg base (L2.CX P w) 3 (ga K "sure_minute") fd ["minute", "many"] (sp_sure_minute K) ∧ Binds K fd ["minute", "many"] [] ∧ PySem.W.keepIn K (.ref (ga K "sure_minute")) = true := by
  obtain ⟨fd, F⟩ := Z.c.def_ 6 (d := d_sure_minute) rfl
  exact ⟨fd, okA_sure_minute Z F, F.bindsN fun _ _ _ _ _ _ us hl => match us, hl with | [_, _], _ => rfl, F.kp⟩
theorem sc_sure_zone : FnScope ["zone"] ["zone"] (defScope s_sure_zone) := ⟨rfl, rfl, rfl, by decide +kernel, rfl, by decide +kernel, by decide +kernel⟩
theorem okA_sure_zone (Z : Env K mg) {fd : FuncData} (F : FunD K d_sure_zone.name d_sure_zone.qual d_sure_zone.params d_sure_zone.body d_sure_zone.scope (d_sure_zone.dvs K) (d_sure_zone.kws K) (fAd K d_sure_zone.at_) fd) : FnOk P w K mg base (L2.CX P w) 3 (ga K "sure_zone") fd ["zone"] (sp_sure_zone K) := by
  obtain ⟨fd_is_between, G_is_between, b_is_between, k_is_between⟩ := ok_is_between (P := P) (w := w) (base := base) Z
  have g_NoClock := Z.glo 5 (x := "NoClock") rfl
  have g_is_between := Z.glo 6 (x := "is_between") rfl
  have g_DAY := Z.int 8 (x := "DAY") (i := 1440) rfl
  have x_NoClock := exc_ok (Z.c.fact 7 (f := .exc "NoClock") rfl)
  refine F.ok (CX := (L2.CX P w)) sc_sure_zone (fun vs H Q E h => len_sure_zone h) (fun cdv A outer s H vs Q E hr h => ⟨t_sure_zone K E, ?_, run_sure_zone h⟩)
  exact (pss_one (ps_if (pt_not (pt_val (pe_call G_is_between (hr.mono (by decide)) rfl g_is_between k_is_between b_is_between .nil pass0 (pa_cons (pv 0) (pa_cons (pe_op op_sub pe_int (pe_glob rfl (Classical.choose_spec g_DAY) ⟨_, rfl⟩)) (pa_cons (pe_op op_sub (pe_glob rfl (Classical.choose_spec g_DAY) ⟨_, rfl⟩) pe_int) pa_nil)))))) (pss_one (ps_raise rfl (takes_of rfl rfl rfl rfl) (pmk_own PySem.F.excBase_ValueError x_NoClock.1 g_NoClock x_NoClock.2.1 (raises_own x_NoClock.2.2.1 x_NoClock.2.2.2) (by exact rfl)))) pss_nil))
theorem ok_sure_zone (Z : Env K mg) : ∃ fd, FnOk P w K mg base (L2.CX P w) 3 (ga K "sure_zone") fd ["zone"] (sp_sure_zone K) ∧ Binds K fd ["zone"] [] ∧ PySem.W.keepIn K (.ref (ga K "sure_zone")) = true := by
  obtain ⟨fd, F⟩ := Z.c.def_ 7 (d := d_sure_zone) rfl
  exact ⟨fd, okA_sure_zone Z F, F.bindsN fun _ _ _ _ _ _ us hl => match us, hl with | [_], _ => rfl, F.kp⟩
theorem sc_shown : FnScope ["moment", "zone"] ["moment", "zone"] (defScope s_shown) := ⟨rfl, rfl, rfl, by decide +kernel, rfl, by decide +kernel, by decide +kernel⟩
theorem okA_shown (Z : Env K mg) {fd : FuncData} (F : FunD K d_shown.name d_shown.qual d_shown.params d_shown.body d_shown.scope (d_shown.dvs K) (d_shown.kws K) (fAd K d_shown.at_) fd) : FnOk P w K mg base (L2.CX P w) 4 (ga K "shown") fd ["moment", "zone"] (sp_shown K) := by
  obtain ⟨fd_sure_zone, G_sure_zone, b_sure_zone, k_sure_zone⟩ := ok_sure_zone (P := P) (w := w) (base := base) Z
  have g_sure_zone := Z.glo 9 (x := "sure_zone") rfl
  have z_divmod := Z.free 10 (x := "divmod") rfl
  have g_DAY := Z.int 8 (x := "DAY") (i := 1440) rfl
  refine F.ok (CX := (L2.CX P w)) sc_shown (fun vs H Q E h => len_shown h) (fun cdv A outer s H vs Q E hr h => ⟨t_shown K E, ?_, run_shown h⟩)
  exact (pss_cons (ps_expr (pe_call G_sure_zone (hr.mono (by decide)) rfl g_sure_zone k_sure_zone b_sure_zone .nil (passes_call (takes_of rfl rfl rfl rfl) (fun _ _ _ _ h => h)) (pa_cons (pv 1) pa_nil)))
    (pss_one (ps_ret (pe_callB call_divmod (by rfl) z_divmod (by decide +kernel) (pa_cons (pe_op op_add (pv 0) (pv 1)) (pa_cons (pe_glob rfl (Classical.choose_spec g_DAY) ⟨_, rfl⟩) pa_nil))))))
theorem ok_shown (Z : Env K mg) : ∃ fd, FnOk P w K mg base (L2.CX P w) 4 (ga K "shown") fd ["moment", "zone"] (sp_shown K) ∧ Binds K fd ["moment", "zone"] [] ∧ PySem.W.keepIn K (.ref (ga K "shown")) = true := by
  obtain ⟨fd, F⟩ := Z.c.def_ 8 (d := d_shown) rfl
  exact ⟨fd, okA_shown Z F, F.bindsN fun _ _ _ _ _ _ us hl => match us, hl with | [_, _], _ => rfl, F.kp⟩
theorem sc_next_hour : FnScope ["minute", "zone", "moment"] ["minute", "zone", "moment"] (defScope s_next_hour) := ⟨rfl, rfl, rfl, by decide +kernel, rfl, by decide +kernel, by decide +kernel⟩
theorem okA_next_hour (Z : Env K mg) {fd : FuncData} (F : FunD K d_next_hour.name d_next_hour.qual d_next_hour.params d_next_hour.body d_next_hour.scope (d_next_hour.dvs K) (d_next_hour.kws K) (fAd K d_next_hour.at_) fd) : FnOk P w K mg base (L2.CX P w) 5 (ga K "next_hour") fd ["minute", "zone", "moment"] (sp_next_hour K) := by
  obtain ⟨fd_shown, G_shown, b_shown, k_shown⟩ := ok_shown (P := P) (w := w) (base := base) Z
  obtain ⟨fd_sure_minute, G_sure_minute, b_sure_minute, k_sure_minute⟩ := ok_sure_minute (P := P) (w := w) (base := base) Z
  have g_shown := Z.glo 11 (x := "shown") rfl
  have g_sure_minute := Z.glo 12 (x := "sure_minute") rfl
  have g_HOUR := Z.int 13 (x := "HOUR") (i := 60) rfl
  refine F.ok (CX := (L2.CX P w)) sc_next_hour (fun vs H Q E h => len_next_hour h) (fun cdv A outer s H vs Q E hr h => ⟨t_next_hour K E, ?_, run_next_hour h⟩)
  exact (pss_cons (ps_expr (pe_call G_sure_minute (hr.mono (by decide)) rfl g_sure_minute k_sure_minute b_sure_minute .nil (passes_call (takes_of rfl rfl rfl rfl) (fun _ _ _ _ h => h)) (pa_cons (pv 0) (pa_cons (pe_glob rfl (Classical.choose_spec g_HOUR) ⟨_, rfl⟩) pa_nil))))
    (pss_one (ps_ret (pe_op op_add (pv 2) (pe_op op_mod (pe_op op_sub (pv 0) (pe_ix ix_seq (pe_call G_shown (hr.mono (by decide)) rfl g_shown k_shown b_shown .nil (passes_call (takes_of rfl rfl rfl rfl) (fun _ _ _ _ h => h)) (pa_cons (pv 2) (pa_cons (pv 1) pa_nil))) pe_int (fun _ _ => rfl))) (pe_glob rfl (Classical.choose_spec g_HOUR) ⟨_, rfl⟩))))))
theorem ok_next_hour (Z : Env K mg) : ∃ fd, FnOk P w K mg base (L2.CX P w) 5 (ga K "next_hour") fd ["minute", "zone", "moment"] (sp_next_hour K) ∧ Binds K fd ["minute", "zone", "moment"] [] ∧ PySem.W.keepIn K (.ref (ga K "next_hour")) = true := by
  obtain ⟨fd, F⟩ := Z.c.def_ 9 (d := d_next_hour) rfl
  exact ⟨fd, okA_next_hour Z F, F.bindsN fun _ _ _ _ _ _ us hl => match us, hl with | [_, _, _], _ => rfl, F.kp⟩
theorem sc_Hour_init : FnScope ["self", "minute"] ["self", "minute"] (defScope s_Hour_init) := ⟨rfl, rfl, rfl, by decide +kernel, rfl, by decide +kernel, by decide +kernel⟩
theorem okA_Hour_init (Z : Env K mg) {fd : FuncData} (F : FunD K d_Hour_init.name d_Hour_init.qual d_Hour_init.params d_Hour_init.body d_Hour_init.scope (d_Hour_init.dvs K) (d_Hour_init.kws K) (fAd K d_Hour_init.at_) fd) : FnOk P w K mg base (L2.CX P w) 6 (ma K (ga K "Hour") "__init__") fd ["self", "minute"] (sp_Hour_init K) := by
  obtain ⟨fd_next_hour, G_next_hour, b_next_hour, k_next_hour⟩ := ok_next_hour (P := P) (w := w) (base := base) Z
  have g_next_hour := Z.glo 14 (x := "next_hour") rfl
  refine F.ok (CX := (L2.CX P w)) sc_Hour_init (fun vs H Q E h => len_Hour_init h) (fun cdv A outer s H vs Q E hr h => ⟨t_Hour_init K E, ?_, run_Hour_init h (cls_ok (Z.c.fact 15 (f := .cls "Hour") rfl)) (noat_ok (Z.c.fact 16 (f := .noat "Hour" "minute") rfl))⟩)
  exact (pss_cons (ps_expr (pe_call G_next_hour (hr.mono (by decide)) rfl g_next_hour k_next_hour b_next_hour .nil (passes_call (takes_of rfl rfl rfl rfl) (fun _ _ _ _ h => h)) (pa_cons (pv 1) (pa_cons pe_int (pa_cons pe_int pa_nil)))))
    (pss_one (ps_fld (pv 0) (pv 1) rfl)))
theorem ok_Hour_init (Z : Env K mg) : ∃ fd, FnOk P w K mg base (L2.CX P w) 6 (ma K (ga K "Hour") "__init__") fd ["self", "minute"] (sp_Hour_init K) ∧ Binds K fd ["self", "minute"] [] ∧ PySem.W.keepIn K (.ref (ma K (ga K "Hour") "__init__")) = true := by
  obtain ⟨fd, F⟩ := Z.c.def_ 10 (d := d_Hour_init) rfl
  exact ⟨fd, okA_Hour_init Z F, F.bindsN fun _ _ _ _ _ _ us hl => match us, hl with | [_, _], _ => rfl, F.kp⟩
theorem sc_next_day : FnScope ["minute", "zone", "moment"] ["minute", "zone", "moment"] (defScope s_next_day) := ⟨rfl, rfl, rfl, by decide +kernel, rfl, by decide +kernel, by decide +kernel⟩
theorem okA_next_day (Z : Env K mg) {fd : FuncData} (F : FunD K d_next_day.name d_next_day.qual d_next_day.params d_next_day.body d_next_day.scope (d_next_day.dvs K) (d_next_day.kws K) (fAd K d_next_day.at_) fd) : FnOk P w K mg base (L2.CX P w) 5 (ga K "next_day") fd ["minute", "zone", "moment"] (sp_next_day K) := by
  obtain ⟨fd_shown, G_shown, b_shown, k_shown⟩ := ok_shown (P := P) (w := w) (base := base) Z
  obtain ⟨fd_sure_minute, G_sure_minute, b_sure_minute, k_sure_minute⟩ := ok_sure_minute (P := P) (w := w) (base := base) Z
  have g_shown := Z.glo 11 (x := "shown") rfl
  have g_sure_minute := Z.glo 12 (x := "sure_minute") rfl
  have g_DAY := Z.int 8 (x := "DAY") (i := 1440) rfl
  refine F.ok (CX := (L2.CX P w)) sc_next_day (fun vs H Q E h => len_next_day h) (fun cdv A outer s H vs Q E hr h => ⟨t_next_day K E, ?_, run_next_day h⟩)
  exact (pss_cons (ps_expr (pe_call G_sure_minute (hr.mono (by decide)) rfl g_sure_minute k_sure_minute b_sure_minute .nil (passes_call (takes_of rfl rfl rfl rfl) (fun _ _ _ _ h => h)) (pa_cons (pv 0) (pa_cons (pe_glob rfl (Classical.choose_spec g_DAY) ⟨_, rfl⟩) pa_nil))))
    (pss_one (ps_ret (pe_op op_add (pv 2) (pe_op op_mod (pe_op op_sub (pv 0) (pe_ix ix_seq (pe_call G_shown (hr.mono (by decide)) rfl g_shown k_shown b_shown .nil (passes_call (takes_of rfl rfl rfl rfl) (fun _ _ _ _ h => h)) (pa_cons (pv 2) (pa_cons (pv 1) pa_nil))) pe_int (fun _ _ => rfl))) (pe_glob rfl (Classical.choose_spec g_DAY) ⟨_, rfl⟩))))))
theorem ok_next_day (Z : Env K mg) : ∃ fd, FnOk P w K mg base (L2.CX P w) 5 (ga K "next_day") fd ["minute", "zone", "moment"] (sp_next_day K) ∧ Binds K fd ["minute", "zone", "moment"] [] ∧ PySem.W.keepIn K (.ref (ga K "next_day")) = true := by
  obtain ⟨fd, F⟩ := Z.c.def_ 11 (d := d_next_day) rfl
  exact ⟨fd, okA_next_day Z F, F.bindsN fun _ _ _ _ _ _ us hl => match us, hl with | [_, _, _], _ => rfl, F.kp⟩
theorem sc_Day_init : FnScope ["self", "minute"] ["self", "minute"] (defScope s_Day_init) := ⟨rfl, rfl, rfl, by decide +kernel, rfl, by decide +kernel, by decide +kernel⟩
theorem okA_Day_init (Z : Env K mg) {fd : FuncData} (F : FunD K d_Day_init.name d_Day_init.qual d_Day_init.params d_Day_init.body d_Day_init.scope (d_Day_init.dvs K) (d_Day_init.kws K) (fAd K d_Day_init.at_) fd) : FnOk P w K mg base (L2.CX P w) 6 (ma K (ga K "Day") "__init__") fd ["self", "minute"] (sp_Day_init K) := by
  obtain ⟨fd_next_day, G_next_day, b_next_day, k_next_day⟩ := ok_next_day (P := P) (w := w) (base := base) Z
  have g_next_day := Z.glo 17 (x := "next_day") rfl
  refine F.ok (CX := (L2.CX P w)) sc_Day_init (fun vs H Q E h => len_Day_init h) (fun cdv A outer s H vs Q E hr h => ⟨t_Day_init K E, ?_, run_Day_init h (cls_ok (Z.c.fact 18 (f := .cls "Day") rfl)) (noat_ok (Z.c.fact 19 (f := .noat "Day" "minute") rfl))⟩)
  exact (pss_cons (ps_expr (pe_call G_next_day (hr.mono (by decide)) rfl g_next_day k_next_day b_next_day .nil (passes_call (takes_of rfl rfl rfl rfl) (fun _ _ _ _ h => h)) (pa_cons (pv 1) (pa_cons pe_int (pa_cons pe_int pa_nil)))))
    (pss_one (ps_fld (pv 0) (pv 1) rfl)))
theorem ok_Day_init (Z : Env K mg) : ∃ fd, FnOk P w K mg base (L2.CX P w) 6 (ma K (ga K "Day") "__init__") fd ["self", "minute"] (sp_Day_init K) ∧ Binds K fd ["self", "minute"] [] ∧ PySem.W.keepIn K (.ref (ma K (ga K "Day") "__init__")) = true := by
  obtain ⟨fd, F⟩ := Z.c.def_ 12 (d := d_Day_init) rfl
  exact ⟨fd, okA_Day_init Z F, F.bindsN fun _ _ _ _ _ _ us hl => match us, hl with | [_, _], _ => rfl, F.kp⟩
theorem sc_law_kinds : FnScope ["_law_way", "_law_found"] ["_law_way"] (defScope s_law_kinds) := ⟨rfl, rfl, rfl, by decide +kernel, rfl, by decide +kernel, by decide +kernel⟩
theorem okA_law_kinds (Z : Env K mg) {fd : FuncData} (F : FunD K d_law_kinds.name d_law_kinds.qual d_law_kinds.params d_law_kinds.body d_law_kinds.scope (d_law_kinds.dvs K) (d_law_kinds.kws K) (fAd K d_law_kinds.at_) fd) : FnOk P w K mg base CX0 1 (ga K "_law_kinds") fd ["_law_way"] (sp_law_kinds K) := by
  have g_Day := Z.glo 20 (x := "Day") rfl
  have g_Hour := Z.glo 21 (x := "Hour") rfl
  have g_Never := Z.glo 22 (x := "Never") rfl
  have g_Now := Z.glo 23 (x := "Now") rfl
  have g_Way := Z.glo 24 (x := "Way") rfl
  have z_isinstance := Z.free 3 (x := "isinstance") rfl
  refine F.ok (CX := CX0) sc_law_kinds (fun vs H Q E h => len_law_kinds h) (fun cdv A outer s H vs Q E hr h => ⟨t_law_kinds K, PSs.nox ?_, run_law_kinds h (Z.x 0 rfl) (insB_ok (cls_ok (Z.c.fact 25 (f := .cls "Now") rfl)) (Z.x 1 rfl)) (insB_ok (cls_ok (Z.c.fact 15 (f := .cls "Hour") rfl)) (Z.x 2 rfl)) (insB_ok (cls_ok (Z.c.fact 18 (f := .cls "Day") rfl)) (Z.x 3 rfl)) (insB_ok (cls_ok (Z.c.fact 26 (f := .cls "Never") rfl)) (Z.x 4 rfl))⟩)
  exact (pss_cons (ps_set (i := 1) sc_law_kinds.nd rfl (Or.inl rfl) (pe_lst (pa_cons (pe_callB call_isi (by rfl) z_isinstance (by decide +kernel) (pa_cons (pv 0) (pa_cons (pe_glob rfl g_Now rfl) pa_nil))) (pa_cons (pe_callB call_isi (by rfl) z_isinstance (by decide +kernel) (pa_cons (pv 0) (pa_cons (pe_glob rfl g_Hour rfl) pa_nil))) (pa_cons (pe_callB call_isi (by rfl) z_isinstance (by decide +kernel) (pa_cons (pv 0) (pa_cons (pe_glob rfl g_Day rfl) pa_nil))) (pa_cons (pe_callB call_isi (by rfl) z_isinstance (by decide +kernel) (pa_cons (pv 0) (pa_cons (pe_glob rfl g_Never rfl) pa_nil))) pa_nil))))))
    (pss_one (ps_ret (pe_op op_cat (pv 1) (pe_lst (pa_cons (pe_callB call_isi (by rfl) z_isinstance (by decide +kernel) (pa_cons (pv 0) (pa_cons (pe_glob rfl g_Way rfl) pa_nil))) pa_nil))))))
theorem ok_law_kinds (Z : Env K mg) : ∃ fd, FnOk P w K mg base CX0 1 (ga K "_law_kinds") fd ["_law_way"] (sp_law_kinds K) ∧ Binds K fd ["_law_way"] [] ∧ PySem.W.keepIn K (.ref (ga K "_law_kinds")) = true := by
  obtain ⟨fd, F⟩ := Z.c.def_ 13 (d := d_law_kinds) rfl
  exact ⟨fd, okA_law_kinds Z F, F.bindsN fun _ _ _ _ _ _ us hl => match us, hl with | [_], _ => rfl, F.kp⟩
theorem sc_Way_is_gathered : FnScope ["self"] ["self"] (defScope s_Way_is_gathered) := ⟨rfl, rfl, rfl, by decide +kernel, rfl, by decide +kernel, by decide +kernel⟩
theorem okA_Way_is_gathered (Z : Env K mg) {fd : FuncData} (F : FunD K d_Way_is_gathered.name d_Way_is_gathered.qual d_Way_is_gathered.params d_Way_is_gathered.body d_Way_is_gathered.scope (d_Way_is_gathered.dvs K) (d_Way_is_gathered.kws K) (fAd K d_Way_is_gathered.at_) fd) : FnOk P w K mg base CX0 1 (ma K (ga K "Way") "is_gathered") fd ["self"] (sp_Way_is_gathered K) := by
  refine F.ok (CX := CX0) sc_Way_is_gathered (fun vs H Q E h => len_Way_is_gathered h) (fun cdv A outer s H vs Q E hr h => ⟨t_Way_is_gathered K, PSs.nox ?_, run_Way_is_gathered h⟩)
  exact (pss_one (ps_ret pe_bl))
theorem ok_Way_is_gathered (Z : Env K mg) : ∃ fd, FnOk P w K mg base CX0 1 (ma K (ga K "Way") "is_gathered") fd ["self"] (sp_Way_is_gathered K) ∧ Binds K fd ["self"] [] ∧ PySem.W.keepIn K (.ref (ma K (ga K "Way") "is_gathered")) = true := by
  obtain ⟨fd, F⟩ := Z.c.def_ 14 (d := d_Way_is_gathered) rfl
  exact ⟨fd, okA_Way_is_gathered Z F, F.bindsN fun _ _ _ _ _ _ us hl => match us, hl with | [_], _ => rfl, F.kp⟩
theorem sc_Gathering_is_gathered : FnScope ["self"] ["self"] (defScope s_Gathering_is_gathered) := ⟨rfl, rfl, rfl, by decide +kernel, rfl, by decide +kernel, by decide +kernel⟩
theorem okA_Gathering_is_gathered (Z : Env K mg) {fd : FuncData} (F : FunD K d_Gathering_is_gathered.name d_Gathering_is_gathered.qual d_Gathering_is_gathered.params d_Gathering_is_gathered.body d_Gathering_is_gathered.scope (d_Gathering_is_gathered.dvs K) (d_Gathering_is_gathered.kws K) (fAd K d_Gathering_is_gathered.at_) fd) : FnOk P w K mg base CX0 1 (ma K (ga K "Gathering") "is_gathered") fd ["self"] (sp_Gathering_is_gathered K) := by
  refine F.ok (CX := CX0) sc_Gathering_is_gathered (fun vs H Q E h => len_Gathering_is_gathered h) (fun cdv A outer s H vs Q E hr h => ⟨t_Gathering_is_gathered K, PSs.nox ?_, run_Gathering_is_gathered h⟩)
  exact (pss_one (ps_ret pe_bl))
theorem ok_Gathering_is_gathered (Z : Env K mg) : ∃ fd, FnOk P w K mg base CX0 1 (ma K (ga K "Gathering") "is_gathered") fd ["self"] (sp_Gathering_is_gathered K) ∧ Binds K fd ["self"] [] ∧ PySem.W.keepIn K (.ref (ma K (ga K "Gathering") "is_gathered")) = true := by
  obtain ⟨fd, F⟩ := Z.c.def_ 15 (d := d_Gathering_is_gathered) rfl
  exact ⟨fd, okA_Gathering_is_gathered Z F, F.bindsN fun _ _ _ _ _ _ us hl => match us, hl with | [_], _ => rfl, F.kp⟩
theorem sc_law_made_right : FnScope ["_law_ways", "_law_one", "_law_other", "_law_k", "_law_found"] ["_law_ways", "_law_one", "_law_other"] (defScope s_law_made_right) := ⟨rfl, rfl, rfl, by decide +kernel, rfl, by decide +kernel, by decide +kernel⟩
theorem okA_law_made_right (Z : Env K mg) {fd : FuncData} (F : FunD K d_law_made_right.name d_law_made_right.qual d_law_made_right.params d_law_made_right.body d_law_made_right.scope (d_law_made_right.dvs K) (d_law_made_right.kws K) (fAd K d_law_made_right.at_) fd) : FnOk P w K mg base CX0 2 (ga K "_law_made_right") fd ["_law_ways", "_law_one", "_law_other"] (sp_law_made_right K) := by
  obtain ⟨fd_Gathering_is_gathered, G_Gathering_is_gathered, b_Gathering_is_gathered, k_Gathering_is_gathered⟩ := ok_Gathering_is_gathered (P := P) (w := w) (base := base) Z
  obtain ⟨fd_Way_is_gathered, G_Way_is_gathered, b_Way_is_gathered, k_Way_is_gathered⟩ := ok_Way_is_gathered (P := P) (w := w) (base := base) Z
  obtain ⟨fd_law_kinds, G_law_kinds, b_law_kinds, k_law_kinds⟩ := ok_law_kinds (P := P) (w := w) (base := base) Z
  have g__law_kinds := Z.glo 27 (x := "_law_kinds") rfl
  have z_bool := Z.free 1 (x := "bool") rfl
  have z_isinstance := Z.free 3 (x := "isinstance") rfl
  have z_range := Z.free 28 (x := "range") rfl
  have c_Day := cls_ok (Z.c.fact 18 (f := .cls "Day") rfl)
  have c_Hour := cls_ok (Z.c.fact 15 (f := .cls "Hour") rfl)
  have c_Never := cls_ok (Z.c.fact 26 (f := .cls "Never") rfl)
  have c_Now := cls_ok (Z.c.fact 25 (f := .cls "Now") rfl)
  have h_Day_is_gathered := methB_ok (Z.x 5 (f := fun K => methB K (ga K "Day") "is_gathered" (ma K (ga K "Gathering") "is_gathered")) rfl)
  have h_Hour_is_gathered := methB_ok (Z.x 6 (f := fun K => methB K (ga K "Hour") "is_gathered" (ma K (ga K "Gathering") "is_gathered")) rfl)
  have h_Never_is_gathered := methB_ok (Z.x 7 (f := fun K => methB K (ga K "Never") "is_gathered" (ma K (ga K "Way") "is_gathered")) rfl)
  have h_Now_is_gathered := methB_ok (Z.x 8 (f := fun K => methB K (ga K "Now") "is_gathered" (ma K (ga K "Way") "is_gathered")) rfl)
  refine F.ok (CX := CX0) sc_law_made_right (fun vs H Q E h => len_law_made_right h) (fun cdv A outer s H vs Q E hr h => ⟨t_law_made_right K, PSs.nox ?_, run_law_made_right h (cls_ok (Z.c.fact 15 (f := .cls "Hour") rfl)) (cls_ok (Z.c.fact 18 (f := .cls "Day") rfl)) (noat_ok (Z.c.fact 16 (f := .noat "Hour" "minute") rfl)) (noat_ok (Z.c.fact 19 (f := .noat "Day" "minute") rfl))⟩)
  exact (pss_cons (ps_for PassesOwn.never rfl (pi_range1 rfl z_range (pa_cons pe_int pa_nil)) (pg_name (i := 3) sc_law_made_right.nd rfl (Or.inl rfl))
    (pss_cons (ps_if (pt_cmpR (op_neD hr.units) (pe_call G_law_kinds (hr.mono (by decide)) rfl g__law_kinds k_law_kinds b_law_kinds .nil pass0 (pa_cons (pe_ix ix_seq (pv 0) (pv 3) (fun _ _ => rfl)) pa_nil)) (pe_lst (pa_cons (pe_cmpR op_eq (pv 3) pe_int (nomark _)) (pa_cons (pe_cmpR op_eq (pv 3) pe_int (nomark _)) (pa_cons (pe_cmpR op_eq (pv 3) pe_int (nomark _)) (pa_cons (pe_cmpR op_eq (pv 3) pe_int (nomark _)) (pa_cons pe_bl pa_nil)))))) (nomark _)) (pss_one (ps_ret pe_bl)) pss_nil)
    (pss_cons (ps_set (i := 4) sc_law_made_right.nd rfl (Or.inl rfl) (pe_alt (pe_meth0 (pe_ix ix_seq (pv 0) (pv 3) (fun _ _ => rfl)) c_Now h_Now_is_gathered G_Way_is_gathered (hr.mono (by decide)) b_Way_is_gathered .nil pass0) (pe_alt (pe_meth0 (pe_ix ix_seq (pv 0) (pv 3) (fun _ _ => rfl)) c_Hour h_Hour_is_gathered G_Gathering_is_gathered (hr.mono (by decide)) b_Gathering_is_gathered .nil pass0) (pe_alt (pe_meth0 (pe_ix ix_seq (pv 0) (pv 3) (fun _ _ => rfl)) c_Day h_Day_is_gathered G_Gathering_is_gathered (hr.mono (by decide)) b_Gathering_is_gathered .nil pass0) (pe_meth0 (pe_ix ix_seq (pv 0) (pv 3) (fun _ _ => rfl)) c_Never h_Never_is_gathered G_Way_is_gathered (hr.mono (by decide)) b_Way_is_gathered .nil pass0)))))
    (pss_one (ps_if (PW.pt (pw_or (pt_not (pt_val (pe_callB call_isi (by rfl) z_isinstance (by decide +kernel) (pa_cons (pv 4) (pa_cons (pe_bltn (v := .ty "bool") (by rfl) z_bool (by decide +kernel) rfl) pa_nil))))) (pw_or1 (pt_cmpR op_ne (pv 4) (pe_or (pe_cmpR op_eq (pv 3) pe_int (nomark _)) (pe_one (pe_cmpR op_eq (pv 3) pe_int (nomark _)))) (nomark _))))) (pss_one (ps_ret pe_bl)) pss_nil)))))
    (pss_one (ps_ret (pe_and (pe_cmpR op_eq (pe_fld (pe_ix ix_seq (pv 0) pe_int (fun _ _ => rfl)) rfl) (pv 1) (nomark _)) (pe_one (pe_cmpR op_eq (pe_fld (pe_ix ix_seq (pv 0) pe_int (fun _ _ => rfl)) rfl) (pv 2) (nomark _)))))))
theorem ok_law_made_right (Z : Env K mg) : ∃ fd, FnOk P w K mg base CX0 2 (ga K "_law_made_right") fd ["_law_ways", "_law_one", "_law_other"] (sp_law_made_right K) ∧ Binds K fd ["_law_ways", "_law_one", "_law_other"] [] ∧ PySem.W.keepIn K (.ref (ga K "_law_made_right")) = true := by
  obtain ⟨fd, F⟩ := Z.c.def_ 16 (d := d_law_made_right) rfl
  exact ⟨fd, okA_law_made_right Z F, F.bindsN fun _ _ _ _ _ _ us hl => match us, hl with | [_, _, _], _ => rfl, F.kp⟩
theorem sc_law_no_zones : FnScope [] [] (defScope s_law_no_zones) := ⟨rfl, rfl, rfl, by decide +kernel, rfl, by decide +kernel, by decide +kernel⟩
theorem okA_law_no_zones (Z : Env K mg) {fd : FuncData} (F : FunD K d_law_no_zones.name d_law_no_zones.qual d_law_no_zones.params d_law_no_zones.body d_law_no_zones.scope (d_law_no_zones.dvs K) (d_law_no_zones.kws K) (fAd K d_law_no_zones.at_) fd) : FnOk P w K mg base CX0 1 (ga K "_law_no_zones") fd [] (sp_law_no_zones K) := by
  refine F.ok (CX := CX0) sc_law_no_zones (fun vs H Q E h => len_law_no_zones h) (fun cdv A outer s H vs Q E hr h => ⟨t_law_no_zones K, PSs.nox ?_, run_law_no_zones h⟩)
  exact (pss_one (ps_ret (pe_lst (pa_cons pe_int (pa_cons (pe_un un_neg pe_int) (pa_cons pe_int (pa_cons pe_bl (pa_cons pe_bl (pa_cons pe_non (pa_cons pe_str (pa_cons (pe_lst (pa_cons pe_int pa_nil)) (pa_cons (pe_tup (pa_cons pe_int pa_nil)) pa_nil))))))))))))
theorem ok_law_no_zones (Z : Env K mg) : ∃ fd, FnOk P w K mg base CX0 1 (ga K "_law_no_zones") fd [] (sp_law_no_zones K) ∧ Binds K fd [] [] ∧ PySem.W.keepIn K (.ref (ga K "_law_no_zones")) = true := by
  obtain ⟨fd, F⟩ := Z.c.def_ 17 (d := d_law_no_zones) rfl
  exact ⟨fd, okA_law_no_zones Z F, F.bindsN fun _ _ _ _ _ _ us hl => match us, hl with | [], _ => rfl, F.kp⟩
theorem sc_law_whole : FnScope ["_law_found"] ["_law_found"] (defScope s_law_whole) := ⟨rfl, rfl, rfl, by decide +kernel, rfl, by decide +kernel, by decide +kernel⟩
theorem okA_law_whole (Z : Env K mg) {fd : FuncData} (F : FunD K d_law_whole.name d_law_whole.qual d_law_whole.params d_law_whole.body d_law_whole.scope (d_law_whole.dvs K) (d_law_whole.kws K) (fAd K d_law_whole.at_) fd) : FnOk P w K mg base CX0 1 (ga K "_law_whole") fd ["_law_found"] (sp_law_whole K) := by
  have z_bool := Z.free 1 (x := "bool") rfl
  have z_int := Z.free 2 (x := "int") rfl
  have z_isinstance := Z.free 3 (x := "isinstance") rfl
  refine F.ok (CX := CX0) sc_law_whole (fun vs H Q E h => len_law_whole h) (fun cdv A outer s H vs Q E hr h => ⟨t_law_whole K, PSs.nox ?_, run_law_whole h⟩)
  exact (pss_one (ps_ret (pe_and (pe_callB call_isi (by rfl) z_isinstance (by decide +kernel) (pa_cons (pv 0) (pa_cons (pe_bltn (v := .ty "int") (by rfl) z_int (by decide +kernel) rfl) pa_nil))) (pe_one (pe_not (pe_callB call_isi (by rfl) z_isinstance (by decide +kernel) (pa_cons (pv 0) (pa_cons (pe_bltn (v := .ty "bool") (by rfl) z_bool (by decide +kernel) rfl) pa_nil))))))))
theorem ok_law_whole (Z : Env K mg) : ∃ fd, FnOk P w K mg base CX0 1 (ga K "_law_whole") fd ["_law_found"] (sp_law_whole K) ∧ Binds K fd ["_law_found"] [] ∧ PySem.W.keepIn K (.ref (ga K "_law_whole")) = true := by
  obtain ⟨fd, F⟩ := Z.c.def_ 18 (d := d_law_whole) rfl
  exact ⟨fd, okA_law_whole Z F, F.bindsN fun _ _ _ _ _ _ us hl => match us, hl with | [_], _ => rfl, F.kp⟩
theorem sc_law_next_right : FnScope ["_law_found", "_law_moment_here", "_law_zone", "_law_minute", "_law_many"] ["_law_found", "_law_moment_here", "_law_zone", "_law_minute", "_law_many"] (defScope s_law_next_right) := ⟨rfl, rfl, rfl, by decide +kernel, rfl, by decide +kernel, by decide +kernel⟩
theorem okA_law_next_right (Z : Env K mg) {fd : FuncData} (F : FunD K d_law_next_right.name d_law_next_right.qual d_law_next_right.params d_law_next_right.body d_law_next_right.scope (d_law_next_right.dvs K) (d_law_next_right.kws K) (fAd K d_law_next_right.at_) fd) : FnOk P w K mg base CX0 2 (ga K "_law_next_right") fd ["_law_found", "_law_moment_here", "_law_zone", "_law_minute", "_law_many"] (sp_law_next_right K) := by
  obtain ⟨fd_law_whole, G_law_whole, b_law_whole, k_law_whole⟩ := ok_law_whole (P := P) (w := w) (base := base) Z
  have g__law_whole := Z.glo 29 (x := "_law_whole") rfl
  refine F.ok (CX := CX0) sc_law_next_right (fun vs H Q E h => len_law_next_right h) (fun cdv A outer s H vs Q E hr h => ⟨t_law_next_right K, PSs.nox ?_, run_law_next_right h⟩)
  exact (pss_cons (ps_if (PW.pt (pw_or (pt_not (pt_val (pe_call G_law_whole (hr.mono (by decide)) rfl g__law_whole k_law_whole b_law_whole .nil pass0 (pa_cons (pv 0) pa_nil)))) (pw_or1 (pt_not (pt_chain op_le op_lt (pv 1) (pv 0) (pe_op op_add (pv 1) (pv 4))))))) (pss_one (ps_ret pe_bl)) pss_nil)
    (pss_one (ps_ret (pe_cmpR op_eq (pe_op op_mod (pe_op op_mod (pe_op op_add (pv 0) (pv 2)) pe_int) (pv 4)) (pv 3) (nomark _)))))
theorem ok_law_next_right (Z : Env K mg) : ∃ fd, FnOk P w K mg base CX0 2 (ga K "_law_next_right") fd ["_law_found", "_law_moment_here", "_law_zone", "_law_minute", "_law_many"] (sp_law_next_right K) ∧ Binds K fd ["_law_found", "_law_moment_here", "_law_zone", "_law_minute", "_law_many"] [] ∧ PySem.W.keepIn K (.ref (ga K "_law_next_right")) = true := by
  obtain ⟨fd, F⟩ := Z.c.def_ 19 (d := d_law_next_right) rfl
  exact ⟨fd, okA_law_next_right Z F, F.bindsN fun _ _ _ _ _ _ us hl => match us, hl with | [_, _, _, _, _], _ => rfl, F.kp⟩
theorem sc_Now_moment_from : FnScope ["self", "moment", "zone"] ["self", "moment", "zone"] (defScope s_Now_moment_from) := ⟨rfl, rfl, rfl, by decide +kernel, rfl, by decide +kernel, by decide +kernel⟩
theorem okA_Now_moment_from (Z : Env K mg) {fd : FuncData} (F : FunD K d_Now_moment_from.name d_Now_moment_from.qual d_Now_moment_from.params d_Now_moment_from.body d_Now_moment_from.scope (d_Now_moment_from.dvs K) (d_Now_moment_from.kws K) (fAd K d_Now_moment_from.at_) fd) : FnOk P w K mg base (L2.CX P w) 5 (ma K (ga K "Now") "moment_from") fd ["self", "moment", "zone"] (sp_Now_moment_from K) := by
  obtain ⟨fd_shown, G_shown, b_shown, k_shown⟩ := ok_shown (P := P) (w := w) (base := base) Z
  have g_shown := Z.glo 11 (x := "shown") rfl
  refine F.ok (CX := (L2.CX P w)) sc_Now_moment_from (fun vs H Q E h => len_Now_moment_from h) (fun cdv A outer s H vs Q E hr h => ⟨t_Now_moment_from K E, ?_, run_Now_moment_from h⟩)
  exact (pss_cons (ps_expr (pe_call G_shown (hr.mono (by decide)) rfl g_shown k_shown b_shown .nil (passes_call (takes_of rfl rfl rfl rfl) (fun _ _ _ _ h => h)) (pa_cons (pv 1) (pa_cons (pv 2) pa_nil))))
    (pss_one (ps_ret (pv 1))))
theorem ok_Now_moment_from (Z : Env K mg) : ∃ fd, FnOk P w K mg base (L2.CX P w) 5 (ma K (ga K "Now") "moment_from") fd ["self", "moment", "zone"] (sp_Now_moment_from K) ∧ Binds K fd ["self", "moment", "zone"] [] ∧ PySem.W.keepIn K (.ref (ma K (ga K "Now") "moment_from")) = true := by
  obtain ⟨fd, F⟩ := Z.c.def_ 20 (d := d_Now_moment_from) rfl
  exact ⟨fd, okA_Now_moment_from Z F, F.bindsN fun _ _ _ _ _ _ us hl => match us, hl with | [_, _, _], _ => rfl, F.kp⟩
theorem sc_Hour_moment_from : FnScope ["self", "moment", "zone"] ["self", "moment", "zone"] (defScope s_Hour_moment_from) := ⟨rfl, rfl, rfl, by decide +kernel, rfl, by decide +kernel, by decide +kernel⟩
theorem okA_Hour_moment_from (Z : Env K mg) {fd : FuncData} (F : FunD K d_Hour_moment_from.name d_Hour_moment_from.qual d_Hour_moment_from.params d_Hour_moment_from.body d_Hour_moment_from.scope (d_Hour_moment_from.dvs K) (d_Hour_moment_from.kws K) (fAd K d_Hour_moment_from.at_) fd) : FnOk P w K mg base (L2.CX P w) 6 (ma K (ga K "Hour") "moment_from") fd ["self", "moment", "zone"] (sp_Hour_moment_from K) := by
  obtain ⟨fd_next_hour, G_next_hour, b_next_hour, k_next_hour⟩ := ok_next_hour (P := P) (w := w) (base := base) Z
  have g_next_hour := Z.glo 14 (x := "next_hour") rfl
  refine F.ok (CX := (L2.CX P w)) sc_Hour_moment_from (fun vs H Q E h => len_Hour_moment_from h) (fun cdv A outer s H vs Q E hr h => ⟨t_Hour_moment_from K E, ?_, run_Hour_moment_from h (cls_ok (Z.c.fact 15 (f := .cls "Hour") rfl)) (noat_ok (Z.c.fact 16 (f := .noat "Hour" "minute") rfl))⟩)
  exact (pss_one (ps_ret (pe_call G_next_hour (hr.mono (by decide)) rfl g_next_hour k_next_hour b_next_hour .nil (passes_call (takes_of rfl rfl rfl rfl) (fun _ _ _ _ h => h)) (pa_cons (pe_fld (pv 0) rfl) (pa_cons (pv 2) (pa_cons (pv 1) pa_nil))))))
theorem ok_Hour_moment_from (Z : Env K mg) : ∃ fd, FnOk P w K mg base (L2.CX P w) 6 (ma K (ga K "Hour") "moment_from") fd ["self", "moment", "zone"] (sp_Hour_moment_from K) ∧ Binds K fd ["self", "moment", "zone"] [] ∧ PySem.W.keepIn K (.ref (ma K (ga K "Hour") "moment_from")) = true := by
  obtain ⟨fd, F⟩ := Z.c.def_ 21 (d := d_Hour_moment_from) rfl
  exact ⟨fd, okA_Hour_moment_from Z F, F.bindsN fun _ _ _ _ _ _ us hl => match us, hl with | [_, _, _], _ => rfl, F.kp⟩
theorem sc_Day_moment_from : FnScope ["self", "moment", "zone"] ["self", "moment", "zone"] (defScope s_Day_moment_from) := ⟨rfl, rfl, rfl, by decide +kernel, rfl, by decide +kernel, by decide +kernel⟩
theorem okA_Day_moment_from (Z : Env K mg) {fd : FuncData} (F : FunD K d_Day_moment_from.name d_Day_moment_from.qual d_Day_moment_from.params d_Day_moment_from.body d_Day_moment_from.scope (d_Day_moment_from.dvs K) (d_Day_moment_from.kws K) (fAd K d_Day_moment_from.at_) fd) : FnOk P w K mg base (L2.CX P w) 6 (ma K (ga K "Day") "moment_from") fd ["self", "moment", "zone"] (sp_Day_moment_from K) := by
  obtain ⟨fd_next_day, G_next_day, b_next_day, k_next_day⟩ := ok_next_day (P := P) (w := w) (base := base) Z
  have g_next_day := Z.glo 17 (x := "next_day") rfl
  refine F.ok (CX := (L2.CX P w)) sc_Day_moment_from (fun vs H Q E h => len_Day_moment_from h) (fun cdv A outer s H vs Q E hr h => ⟨t_Day_moment_from K E, ?_, run_Day_moment_from h (cls_ok (Z.c.fact 18 (f := .cls "Day") rfl)) (noat_ok (Z.c.fact 19 (f := .noat "Day" "minute") rfl))⟩)
  exact (pss_one (ps_ret (pe_call G_next_day (hr.mono (by decide)) rfl g_next_day k_next_day b_next_day .nil (passes_call (takes_of rfl rfl rfl rfl) (fun _ _ _ _ h => h)) (pa_cons (pe_fld (pv 0) rfl) (pa_cons (pv 2) (pa_cons (pv 1) pa_nil))))))
theorem ok_Day_moment_from (Z : Env K mg) : ∃ fd, FnOk P w K mg base (L2.CX P w) 6 (ma K (ga K "Day") "moment_from") fd ["self", "moment", "zone"] (sp_Day_moment_from K) ∧ Binds K fd ["self", "moment", "zone"] [] ∧ PySem.W.keepIn K (.ref (ma K (ga K "Day") "moment_from")) = true := by
  obtain ⟨fd, F⟩ := Z.c.def_ 22 (d := d_Day_moment_from) rfl
  exact ⟨fd, okA_Day_moment_from Z F, F.bindsN fun _ _ _ _ _ _ us hl => match us, hl with | [_, _, _], _ => rfl, F.kp⟩
theorem sc_Never_moment_from : FnScope ["self", "moment", "zone"] ["self", "moment", "zone"] (defScope s_Never_moment_from) := ⟨rfl, rfl, rfl, by decide +kernel, rfl, by decide +kernel, by decide +kernel⟩
theorem okA_Never_moment_from (Z : Env K mg) {fd : FuncData} (F : FunD K d_Never_moment_from.name d_Never_moment_from.qual d_Never_moment_from.params d_Never_moment_from.body d_Never_moment_from.scope (d_Never_moment_from.dvs K) (d_Never_moment_from.kws K) (fAd K d_Never_moment_from.at_) fd) : FnOk P w K mg base (L2.CX P w) 5 (ma K (ga K "Never") "moment_from") fd ["self", "moment", "zone"] (sp_Never_moment_from K) := by
  obtain ⟨fd_shown, G_shown, b_shown, k_shown⟩ := ok_shown (P := P) (w := w) (base := base) Z
  have g_shown := Z.glo 11 (x := "shown") rfl
  refine F.ok (CX := (L2.CX P w)) sc_Never_moment_from (fun vs H Q E h => len_Never_moment_from h) (fun cdv A outer s H vs Q E hr h => ⟨t_Never_moment_from K E, ?_, run_Never_moment_from h⟩)
  exact (pss_cons (ps_expr (pe_call G_shown (hr.mono (by decide)) rfl g_shown k_shown b_shown .nil (passes_call (takes_of rfl rfl rfl rfl) (fun _ _ _ _ h => h)) (pa_cons (pv 1) (pa_cons (pv 2) pa_nil))))
    (pss_one (ps_ret pe_non)))
theorem ok_Never_moment_from (Z : Env K mg) : ∃ fd, FnOk P w K mg base (L2.CX P w) 5 (ma K (ga K "Never") "moment_from") fd ["self", "moment", "zone"] (sp_Never_moment_from K) ∧ Binds K fd ["self", "moment", "zone"] [] ∧ PySem.W.keepIn K (.ref (ma K (ga K "Never") "moment_from")) = true := by
  obtain ⟨fd, F⟩ := Z.c.def_ 23 (d := d_Never_moment_from) rfl
  exact ⟨fd, okA_Never_moment_from Z F, F.bindsN fun _ _ _ _ _ _ us hl => match us, hl with | [_, _, _], _ => rfl, F.kp⟩
theorem sc_law_asked : FnScope ["_law_word", "_law_thing", "_law_way"] ["_law_word", "_law_thing", "_law_way"] (defScope s_law_asked) := ⟨rfl, rfl, rfl, by decide +kernel, rfl, by decide +kernel, by decide +kernel⟩
theorem okA_law_asked (Z : Env K mg) {fd : FuncData} (F : FunD K d_law_asked.name d_law_asked.qual d_law_asked.params d_law_asked.body d_law_asked.scope (d_law_asked.dvs K) (d_law_asked.kws K) (fAd K d_law_asked.at_) fd) : FnOk P w K mg base (L2.CX P w) 8 (ga K "_law_asked") fd ["_law_word", "_law_thing", "_law_way"] (sp_law_asked K) := by
  obtain ⟨fd_Day_init, G_Day_init, b_Day_init, k_Day_init⟩ := ok_Day_init (P := P) (w := w) (base := base) Z
  obtain ⟨fd_Day_moment_from, G_Day_moment_from, b_Day_moment_from, k_Day_moment_from⟩ := ok_Day_moment_from (P := P) (w := w) (base := base) Z
  obtain ⟨fd_Hour_init, G_Hour_init, b_Hour_init, k_Hour_init⟩ := ok_Hour_init (P := P) (w := w) (base := base) Z
  obtain ⟨fd_Hour_moment_from, G_Hour_moment_from, b_Hour_moment_from, k_Hour_moment_from⟩ := ok_Hour_moment_from (P := P) (w := w) (base := base) Z
  obtain ⟨fd_Never_moment_from, G_Never_moment_from, b_Never_moment_from, k_Never_moment_from⟩ := ok_Never_moment_from (P := P) (w := w) (base := base) Z
  obtain ⟨fd_Now_moment_from, G_Now_moment_from, b_Now_moment_from, k_Now_moment_from⟩ := ok_Now_moment_from (P := P) (w := w) (base := base) Z
  have g_Day := Z.glo 20 (x := "Day") rfl
  have g_Hour := Z.glo 21 (x := "Hour") rfl
  have mk_Day := mkr_ok (Z.c.fact 30 (f := .mkr "Day") rfl)
  have mk_Hour := mkr_ok (Z.c.fact 31 (f := .mkr "Hour") rfl)
  have c_Day := cls_ok (Z.c.fact 18 (f := .cls "Day") rfl)
  have c_Hour := cls_ok (Z.c.fact 15 (f := .cls "Hour") rfl)
  have c_Never := cls_ok (Z.c.fact 26 (f := .cls "Never") rfl)
  have c_Now := cls_ok (Z.c.fact 25 (f := .cls "Now") rfl)
  have h_Day_moment_from := meth_ok (Z.c.fact 32 (f := .meth "Day" "moment_from") rfl)
  have h_Hour_moment_from := meth_ok (Z.c.fact 33 (f := .meth "Hour" "moment_from") rfl)
  have h_Never_moment_from := meth_ok (Z.c.fact 34 (f := .meth "Never" "moment_from") rfl)
  have h_Now_moment_from := meth_ok (Z.c.fact 35 (f := .meth "Now" "moment_from") rfl)
  refine F.ok (CX := (L2.CX P w)) sc_law_asked (fun vs H Q E h => len_law_asked h) (fun cdv A outer s H vs Q E hr h => ⟨t_law_asked K E, ?_, run_law_asked h⟩)
  exact (pss_cons (ps_if (pt_cmpR op_eq (pv 0) pe_str (nomark _)) (pss_one (ps_ret (pe_make mk_Hour G_Hour_init (hr.mono (by decide)) (by exact rfl) g_Hour b_Hour_init .nil (passes_call (takes_of rfl rfl rfl rfl) (fun _ _ _ _ h => h)) (pa_cons (pv 1) pa_nil)))) pss_nil)
    (pss_cons (ps_if (pt_cmpR op_eq (pv 0) pe_str (nomark _)) (pss_one (ps_ret (pe_make mk_Day G_Day_init (hr.mono (by decide)) (by exact rfl) g_Day b_Day_init .nil (passes_call (takes_of rfl rfl rfl rfl) (fun _ _ _ _ h => h)) (pa_cons (pv 1) pa_nil)))) pss_nil)
    (pss_one (ps_ret (pe_alt (pe_meth (pv 2) c_Now h_Now_moment_from G_Now_moment_from (hr.mono (by decide)) b_Now_moment_from .nil (passes_call (takes_of rfl rfl rfl rfl) (fun _ _ _ _ h => h)) (pa_cons pe_int (pa_cons (pv 1) pa_nil))) (pe_alt (pe_meth (pv 2) c_Hour h_Hour_moment_from G_Hour_moment_from (hr.mono (by decide)) b_Hour_moment_from .nil (passes_call (takes_of rfl rfl rfl rfl) (fun _ _ _ _ h => h)) (pa_cons pe_int (pa_cons (pv 1) pa_nil))) (pe_alt (pe_meth (pv 2) c_Day h_Day_moment_from G_Day_moment_from (hr.mono (by decide)) b_Day_moment_from .nil (passes_call (takes_of rfl rfl rfl rfl) (fun _ _ _ _ h => h)) (pa_cons pe_int (pa_cons (pv 1) pa_nil))) (pe_meth (pv 2) c_Never h_Never_moment_from G_Never_moment_from (hr.mono (by decide)) b_Never_moment_from .nil (passes_call (takes_of rfl rfl rfl rfl) (fun _ _ _ _ h => h)) (pa_cons pe_int (pa_cons (pv 1) pa_nil))))))))))
theorem ok_law_asked (Z : Env K mg) : ∃ fd, FnOk P w K mg base (L2.CX P w) 8 (ga K "_law_asked") fd ["_law_word", "_law_thing", "_law_way"] (sp_law_asked K) ∧ Binds K fd ["_law_word", "_law_thing", "_law_way"] [] ∧ PySem.W.keepIn K (.ref (ga K "_law_asked")) = true := by
  obtain ⟨fd, F⟩ := Z.c.def_ 24 (d := d_law_asked) rfl
  exact ⟨fd, okA_law_asked Z F, F.bindsN fun _ _ _ _ _ _ us hl => match us, hl with | [_, _, _], _ => rfl, F.kp⟩
theorem sc_law_refused : FnScope ["_law_word", "_law_thing", "_law_way", "_law_found", "e", "_law_other"] ["_law_word", "_law_thing", "_law_way"] (defScope s_law_refused) := ⟨rfl, rfl, rfl, by decide +kernel, rfl, by decide +kernel, by decide +kernel⟩
theorem okA_law_refused (Z : Env K mg) {fd : FuncData} (F : FunD K d_law_refused.name d_law_refused.qual d_law_refused.params d_law_refused.body d_law_refused.scope (d_law_refused.dvs K) (d_law_refused.kws K) (fAd K d_law_refused.at_) fd) : FnOk P w K mg base CX0 9 (ga K "_law_refused") fd ["_law_word", "_law_thing", "_law_way"] (sp_law_refused K) := by
  obtain ⟨fd_law_asked, G_law_asked, b_law_asked, k_law_asked⟩ := ok_law_asked (P := P) (w := w) (base := base) Z
  have g_BellError := Z.glo 36 (x := "BellError") rfl
  have g_NoClock := Z.glo 5 (x := "NoClock") rfl
  have g_NoFit := Z.glo 37 (x := "NoFit") rfl
  have g_NoRow := Z.glo 38 (x := "NoRow") rfl
  have g_NoTime := Z.glo 39 (x := "NoTime") rfl
  have g_NoWish := Z.glo 40 (x := "NoWish") rfl
  have g__law_asked := Z.glo 41 (x := "_law_asked") rfl
  have z_ValueError := Z.free 42 (x := "ValueError") rfl
  have z_isinstance := Z.free 3 (x := "isinstance") rfl
  refine F.ok (CX := CX0) sc_law_refused (fun vs H Q E h => len_law_refused h) (fun cdv A outer s H vs Q E hr h => ⟨t_law_refused K, PSs.nox ?_, run_law_refused h (Z.x 9 rfl)⟩)
  exact (pss_cons (ps_set (i := 3) sc_law_refused.nd rfl (Or.inl rfl) pe_bl)
    (pss_cons (ps_try_as (i := 4) rfl rfl sc_law_refused.nd rfl rfl ⟨by exact rfl, by decide, .inl g_BellError⟩ takes0 (fun W pn xe tk _ => (pss_one (ps_expr (pe_callS G_law_asked (hr.mono (by decide)) (by exact rfl) g__law_asked k_law_asked b_law_asked (fun σ => passAt tk σ) (pa_cons (pv 0) (pa_cons (pv 1) (pa_cons (pv 2) pa_nil)))))))
    (fun a oe cls d pn hz hf => (pss_cons (ps_set (i := 5) sc_law_refused.nd rfl (Or.inl rfl) (pe_callB (call_isXT hz hf) (by rfl) z_isinstance (by decide +kernel) (pa_cons (pv 4) (pa_cons (pe_tup (pa_cons (pe_glob rfl g_NoFit rfl) (pa_cons (pe_glob rfl g_NoRow rfl) (pa_cons (pe_glob rfl g_NoTime rfl) (pa_cons (pe_glob rfl g_NoWish rfl) pa_nil))))) pa_nil))))
    (pss_one (ps_set (i := 3) sc_law_refused.nd rfl (Or.inl rfl) (pe_and (pe_callB (call_isX hz hf) (by rfl) z_isinstance (by decide +kernel) (pa_cons (pv 4) (pa_cons (pe_glob rfl g_NoClock rfl) pa_nil))) (pe_and (pe_callB (call_isX hz hf) (by rfl) z_isinstance (by decide +kernel) (pa_cons (pv 4) (pa_cons (pe_bltn (v := .ty "ValueError") (by rfl) z_ValueError (by decide +kernel) rfl) pa_nil))) (pe_one (pe_not (pv 5))))))))))
    (pss_one (ps_ret (pv 3)))))
theorem ok_law_refused (Z : Env K mg) : ∃ fd, FnOk P w K mg base CX0 9 (ga K "_law_refused") fd ["_law_word", "_law_thing", "_law_way"] (sp_law_refused K) ∧ Binds K fd ["_law_word", "_law_thing", "_law_way"] [] ∧ PySem.W.keepIn K (.ref (ga K "_law_refused")) = true := by
  obtain ⟨fd, F⟩ := Z.c.def_ 25 (d := d_law_refused) rfl
  exact ⟨fd, okA_law_refused Z F, F.bindsN fun _ _ _ _ _ _ us hl => match us, hl with | [_, _, _], _ => rfl, F.kp⟩
theorem sc_law_no_minutes : FnScope ["_law_many"] ["_law_many"] (defScope s_law_no_minutes) := ⟨rfl, rfl, rfl, by decide +kernel, rfl, by decide +kernel, by decide +kernel⟩
theorem okA_law_no_minutes (Z : Env K mg) {fd : FuncData} (F : FunD K d_law_no_minutes.name d_law_no_minutes.qual d_law_no_minutes.params d_law_no_minutes.body d_law_no_minutes.scope (d_law_no_minutes.dvs K) (d_law_no_minutes.kws K) (fAd K d_law_no_minutes.at_) fd) : FnOk P w K mg base CX0 1 (ga K "_law_no_minutes") fd ["_law_many"] (sp_law_no_minutes K) := by
  refine F.ok (CX := CX0) sc_law_no_minutes (fun vs H Q E h => len_law_no_minutes h) (fun cdv A outer s H vs Q E hr h => ⟨t_law_no_minutes K, PSs.nox ?_, run_law_no_minutes h⟩)
  exact (pss_one (ps_ret (pe_lst (pa_cons (pe_un un_neg pe_int) (pa_cons (pv 0) (pa_cons (pe_op op_add (pv 0) pe_int) (pa_cons pe_bl (pa_cons pe_bl (pa_cons pe_non (pa_cons pe_str (pa_cons (pe_lst (pa_cons pe_int pa_nil)) (pa_cons (pe_tup (pa_cons pe_int pa_nil)) (pa_cons (pe_un un_neg (pe_pow2 (r := 1000000) (by decide) ⟨by decide, by decide, by decide⟩)) pa_nil)))))))))))))
theorem ok_law_no_minutes (Z : Env K mg) : ∃ fd, FnOk P w K mg base CX0 1 (ga K "_law_no_minutes") fd ["_law_many"] (sp_law_no_minutes K) ∧ Binds K fd ["_law_many"] [] ∧ PySem.W.keepIn K (.ref (ga K "_law_no_minutes")) = true := by
  obtain ⟨fd, F⟩ := Z.c.def_ 26 (d := d_law_no_minutes) rfl
  exact ⟨fd, okA_law_no_minutes Z F, F.bindsN fun _ _ _ _ _ _ us hl => match us, hl with | [_], _ => rfl, F.kp⟩
theorem sc_law : FnScope ["_law_script", "_law_cell", "_law_state", "_law_moment_here", "_law_zone", "_law_one", "_law_other", "_law_ways", "_law_asked_here", "_law_found", "_law_bad", "_law_at", "_law_word", "_law_many", "_law_way"] ["_law_script"] (defScope s_law) := ⟨rfl, rfl, rfl, by decide +kernel, rfl, by decide +kernel, by decide +kernel⟩
theorem okA_law (Z : Env K mg) {fd : FuncData} (F : FunD K d_law.name d_law.qual d_law.params d_law.body d_law.scope (d_law.dvs K) (d_law.kws K) (fAd K d_law.at_) fd) : FnOk P w K mg base CX0 10 (ga K "law") fd ["_law_script"] (sp_law K) := by
  obtain ⟨fd_Day_init, G_Day_init, b_Day_init, k_Day_init⟩ := ok_Day_init (P := P) (w := w) (base := base) Z
  obtain ⟨fd_Day_moment_from, G_Day_moment_from, b_Day_moment_from, k_Day_moment_from⟩ := ok_Day_moment_from (P := P) (w := w) (base := base) Z
  obtain ⟨fd_Hour_init, G_Hour_init, b_Hour_init, k_Hour_init⟩ := ok_Hour_init (P := P) (w := w) (base := base) Z
  obtain ⟨fd_Hour_moment_from, G_Hour_moment_from, b_Hour_moment_from, k_Hour_moment_from⟩ := ok_Hour_moment_from (P := P) (w := w) (base := base) Z
  obtain ⟨fd_Never_moment_from, G_Never_moment_from, b_Never_moment_from, k_Never_moment_from⟩ := ok_Never_moment_from (P := P) (w := w) (base := base) Z
  obtain ⟨fd_Now_moment_from, G_Now_moment_from, b_Now_moment_from, k_Now_moment_from⟩ := ok_Now_moment_from (P := P) (w := w) (base := base) Z
  obtain ⟨fd_law_begin, G_law_begin, b_law_begin, k_law_begin⟩ := ok_law_begin (P := P) (w := w) (base := base) Z
  obtain ⟨fd_law_edge, G_law_edge, b_law_edge, k_law_edge⟩ := ok_law_edge (P := P) (w := w) (base := base) Z
  obtain ⟨fd_law_made_right, G_law_made_right, b_law_made_right, k_law_made_right⟩ := ok_law_made_right (P := P) (w := w) (base := base) Z
  obtain ⟨fd_law_moment, G_law_moment, b_law_moment, k_law_moment⟩ := ok_law_moment (P := P) (w := w) (base := base) Z
  obtain ⟨fd_law_next, G_law_next, b_law_next, k_law_next⟩ := ok_law_next (P := P) (w := w) (base := base) Z
  obtain ⟨fd_law_next_right, G_law_next_right, b_law_next_right, k_law_next_right⟩ := ok_law_next_right (P := P) (w := w) (base := base) Z
  obtain ⟨fd_law_no_minutes, G_law_no_minutes, b_law_no_minutes, k_law_no_minutes⟩ := ok_law_no_minutes (P := P) (w := w) (base := base) Z
  obtain ⟨fd_law_no_zones, G_law_no_zones, b_law_no_zones, k_law_no_zones⟩ := ok_law_no_zones (P := P) (w := w) (base := base) Z
  obtain ⟨fd_law_refused, G_law_refused, b_law_refused, k_law_refused⟩ := ok_law_refused (P := P) (w := w) (base := base) Z
  obtain ⟨fd_law_whole, G_law_whole, b_law_whole, k_law_whole⟩ := ok_law_whole (P := P) (w := w) (base := base) Z
  have g_Day := Z.glo 20 (x := "Day") rfl
  have g_Hour := Z.glo 21 (x := "Hour") rfl
  have g_Never := Z.glo 22 (x := "Never") rfl
  have g_Now := Z.glo 23 (x := "Now") rfl
  have g__law_begin := Z.glo 43 (x := "_law_begin") rfl
  have g__law_edge := Z.glo 44 (x := "_law_edge") rfl
  have g__law_made_right := Z.glo 45 (x := "_law_made_right") rfl
  have g__law_moment := Z.glo 46 (x := "_law_moment") rfl
  have g__law_next := Z.glo 0 (x := "_law_next") rfl
  have g__law_next_right := Z.glo 47 (x := "_law_next_right") rfl
  have g__law_no_minutes := Z.glo 48 (x := "_law_no_minutes") rfl
  have g__law_no_zones := Z.glo 49 (x := "_law_no_zones") rfl
  have g__law_refused := Z.glo 50 (x := "_law_refused") rfl
  have g__law_whole := Z.glo 29 (x := "_law_whole") rfl
  have m0_Never := mk0B_ok (Z.x 10 (f := fun K => mk0B K (ga K "Never")) rfl)
  have m0_Now := mk0B_ok (Z.x 11 (f := fun K => mk0B K (ga K "Now")) rfl)
  have mk_Day := mkr_ok (Z.c.fact 30 (f := .mkr "Day") rfl)
  have mk_Hour := mkr_ok (Z.c.fact 31 (f := .mkr "Hour") rfl)
  have c_Day := cls_ok (Z.c.fact 18 (f := .cls "Day") rfl)
  have c_Hour := cls_ok (Z.c.fact 15 (f := .cls "Hour") rfl)
  have c_Never := cls_ok (Z.c.fact 26 (f := .cls "Never") rfl)
  have c_Now := cls_ok (Z.c.fact 25 (f := .cls "Now") rfl)
  have h_Day_moment_from := meth_ok (Z.c.fact 32 (f := .meth "Day" "moment_from") rfl)
  have h_Hour_moment_from := meth_ok (Z.c.fact 33 (f := .meth "Hour" "moment_from") rfl)
  have h_Never_moment_from := meth_ok (Z.c.fact 34 (f := .meth "Never" "moment_from") rfl)
  have h_Now_moment_from := meth_ok (Z.c.fact 35 (f := .meth "Now" "moment_from") rfl)
  refine F.ok (CX := CX0) sc_law (fun vs H Q E h => len_law h) (fun cdv A outer s H vs Q E hr h => ⟨t_law K, PSs.nox ?_, run_law h⟩)
  exact (pss_cons (ps_for PassesOwn.never rfl (pi_list (pe_op op_cat (pe_lst (pa_cons pe_int pa_nil)) (pe_slice sl_list (pv 0) po_none (po_some pe_int)))) (pg_name (i := 1) sc_law.nd rfl (Or.inl rfl))
    (pss_cons (ps_set (i := 2) sc_law.nd rfl (Or.inl rfl) (pe_call G_law_begin (hr.mono (by decide)) rfl g__law_begin k_law_begin b_law_begin .nil pass0 (pa_cons (pv 1) pa_nil)))
    (pss_cons (ps_set (i := 3) sc_law.nd rfl (Or.inl rfl) (pe_call G_law_moment (hr.mono (by decide)) rfl g__law_moment k_law_moment b_law_moment .nil pass0 (pa_cons (pv 2) pa_nil)))
    (pss_cons (ps_set (i := 4) sc_law.nd rfl (Or.inl rfl) (pe_op op_sub (pe_call G_law_edge (hr.mono (by decide)) rfl g__law_edge k_law_edge b_law_edge .nil pass0 (pa_cons (pv 2) (pa_cons pe_int pa_nil))) pe_int))
    (pss_cons (ps_set (i := 5) sc_law.nd rfl (Or.inl rfl) (pe_call G_law_edge (hr.mono (by decide)) rfl g__law_edge k_law_edge b_law_edge .nil pass0 (pa_cons (pv 2) (pa_cons pe_int pa_nil))))
    (pss_cons (ps_set (i := 6) sc_law.nd rfl (Or.inl rfl) (pe_call G_law_edge (hr.mono (by decide)) rfl g__law_edge k_law_edge b_law_edge .nil pass0 (pa_cons (pv 2) (pa_cons pe_int pa_nil))))
    (pss_cons (ps_set (i := 7) sc_law.nd rfl (Or.inl rfl) (pe_lst (pa_cons (pe_make00 m0_Now (by exact rfl) g_Now) (pa_cons (pe_make mk_Hour G_Hour_init (hr.mono (by decide)) (by exact rfl) g_Hour b_Hour_init .nil passL (pa_cons (pv 5) pa_nil)) (pa_cons (pe_make mk_Day G_Day_init (hr.mono (by decide)) (by exact rfl) g_Day b_Day_init .nil passL (pa_cons (pv 6) pa_nil)) (pa_cons (pe_make00 m0_Never (by exact rfl) g_Never) pa_nil))))))
    (pss_cons (ps_if (pt_not (pt_val (pe_call G_law_made_right (hr.mono (by decide)) rfl g__law_made_right k_law_made_right b_law_made_right .nil pass0 (pa_cons (pv 7) (pa_cons (pv 5) (pa_cons (pv 6) pa_nil)))))) (pss_one (ps_ret pe_bl)) pss_nil)
    (pss_cons (ps_set (i := 8) sc_law.nd rfl (Or.inl rfl) (pe_lst (pa_cons (pe_tup (pa_cons (pv 3) (pa_cons (pv 4) pa_nil))) (pa_cons (pe_tup (pa_cons (pe_call G_law_moment (hr.mono (by decide)) rfl g__law_moment k_law_moment b_law_moment .nil pass0 (pa_cons (pv 2) pa_nil)) (pa_cons (pe_op op_sub (pe_call G_law_edge (hr.mono (by decide)) rfl g__law_edge k_law_edge b_law_edge .nil pass0 (pa_cons (pv 2) (pa_cons pe_int pa_nil))) pe_int) pa_nil))) pa_nil))))
    (pss_cons (ps_for PassesOwn.never rfl (pi_list (pe_op op_cat (pv 8) (pe_slice sl_list (pv 8) po_none (po_some pe_int)))) (pg_tup (by rfl) (pgs_cons (pg_name (i := 3) sc_law.nd rfl (Or.inl rfl)) (pgs_cons (pg_name (i := 4) sc_law.nd rfl (Or.inl rfl)) pgs_nil)))
    (pss_cons (ps_set (i := 9) sc_law.nd rfl (Or.inl rfl) (pe_alt (pe_meth (pe_ix ix_seq (pv 7) pe_int (fun _ _ => rfl)) c_Now h_Now_moment_from G_Now_moment_from (hr.mono (by decide)) b_Now_moment_from .nil passL (pa_cons (pv 3) (pa_cons (pv 4) pa_nil))) (pe_alt (pe_meth (pe_ix ix_seq (pv 7) pe_int (fun _ _ => rfl)) c_Hour h_Hour_moment_from G_Hour_moment_from (hr.mono (by decide)) b_Hour_moment_from .nil passL (pa_cons (pv 3) (pa_cons (pv 4) pa_nil))) (pe_alt (pe_meth (pe_ix ix_seq (pv 7) pe_int (fun _ _ => rfl)) c_Day h_Day_moment_from G_Day_moment_from (hr.mono (by decide)) b_Day_moment_from .nil passL (pa_cons (pv 3) (pa_cons (pv 4) pa_nil))) (pe_meth (pe_ix ix_seq (pv 7) pe_int (fun _ _ => rfl)) c_Never h_Never_moment_from G_Never_moment_from (hr.mono (by decide)) b_Never_moment_from .nil passL (pa_cons (pv 3) (pa_cons (pv 4) pa_nil)))))))
    (pss_cons (ps_if (PW.pt (pw_or (pt_not (pt_val (pe_call G_law_whole (hr.mono (by decide)) rfl g__law_whole k_law_whole b_law_whole .nil pass0 (pa_cons (pv 9) pa_nil)))) (pw_or (pt_cmpR op_ne (pv 9) (pv 3) (nomark _)) (pw_or1 (pt_cmpR op_notN (pe_alt (pe_meth (pe_ix ix_seq (pv 7) pe_int (fun _ _ => rfl)) c_Now h_Now_moment_from G_Now_moment_from (hr.mono (by decide)) b_Now_moment_from .nil passL (pa_cons (pv 3) (pa_cons (pv 4) pa_nil))) (pe_alt (pe_meth (pe_ix ix_seq (pv 7) pe_int (fun _ _ => rfl)) c_Hour h_Hour_moment_from G_Hour_moment_from (hr.mono (by decide)) b_Hour_moment_from .nil passL (pa_cons (pv 3) (pa_cons (pv 4) pa_nil))) (pe_alt (pe_meth (pe_ix ix_seq (pv 7) pe_int (fun _ _ => rfl)) c_Day h_Day_moment_from G_Day_moment_from (hr.mono (by decide)) b_Day_moment_from .nil passL (pa_cons (pv 3) (pa_cons (pv 4) pa_nil))) (pe_meth (pe_ix ix_seq (pv 7) pe_int (fun _ _ => rfl)) c_Never h_Never_moment_from G_Never_moment_from (hr.mono (by decide)) b_Never_moment_from .nil passL (pa_cons (pv 3) (pa_cons (pv 4) pa_nil)))))) pe_non (nomark _)))))) (pss_one (ps_ret pe_bl)) pss_nil)
    (pss_cons (ps_if (pt_not (pt_val (pe_call G_law_next_right (hr.mono (by decide)) rfl g__law_next_right k_law_next_right b_law_next_right .nil pass0 (pa_cons (pe_alt (pe_meth (pe_ix ix_seq (pv 7) pe_int (fun _ _ => rfl)) c_Now h_Now_moment_from G_Now_moment_from (hr.mono (by decide)) b_Now_moment_from .nil passL (pa_cons (pv 3) (pa_cons (pv 4) pa_nil))) (pe_alt (pe_meth (pe_ix ix_seq (pv 7) pe_int (fun _ _ => rfl)) c_Hour h_Hour_moment_from G_Hour_moment_from (hr.mono (by decide)) b_Hour_moment_from .nil passL (pa_cons (pv 3) (pa_cons (pv 4) pa_nil))) (pe_alt (pe_meth (pe_ix ix_seq (pv 7) pe_int (fun _ _ => rfl)) c_Day h_Day_moment_from G_Day_moment_from (hr.mono (by decide)) b_Day_moment_from .nil passL (pa_cons (pv 3) (pa_cons (pv 4) pa_nil))) (pe_meth (pe_ix ix_seq (pv 7) pe_int (fun _ _ => rfl)) c_Never h_Never_moment_from G_Never_moment_from (hr.mono (by decide)) b_Never_moment_from .nil passL (pa_cons (pv 3) (pa_cons (pv 4) pa_nil)))))) (pa_cons (pv 3) (pa_cons (pv 4) (pa_cons (pv 5) (pa_cons pe_int pa_nil)))))))) (pss_one (ps_ret pe_bl)) pss_nil)
    (pss_one (ps_if (pt_not (pt_val (pe_call G_law_next_right (hr.mono (by decide)) rfl g__law_next_right k_law_next_right b_law_next_right .nil pass0 (pa_cons (pe_alt (pe_meth (pe_ix ix_seq (pv 7) pe_int (fun _ _ => rfl)) c_Now h_Now_moment_from G_Now_moment_from (hr.mono (by decide)) b_Now_moment_from .nil passL (pa_cons (pv 3) (pa_cons (pv 4) pa_nil))) (pe_alt (pe_meth (pe_ix ix_seq (pv 7) pe_int (fun _ _ => rfl)) c_Hour h_Hour_moment_from G_Hour_moment_from (hr.mono (by decide)) b_Hour_moment_from .nil passL (pa_cons (pv 3) (pa_cons (pv 4) pa_nil))) (pe_alt (pe_meth (pe_ix ix_seq (pv 7) pe_int (fun _ _ => rfl)) c_Day h_Day_moment_from G_Day_moment_from (hr.mono (by decide)) b_Day_moment_from .nil passL (pa_cons (pv 3) (pa_cons (pv 4) pa_nil))) (pe_meth (pe_ix ix_seq (pv 7) pe_int (fun _ _ => rfl)) c_Never h_Never_moment_from G_Never_moment_from (hr.mono (by decide)) b_Never_moment_from .nil passL (pa_cons (pv 3) (pa_cons (pv 4) pa_nil)))))) (pa_cons (pv 3) (pa_cons (pv 4) (pa_cons (pv 6) (pa_cons pe_int pa_nil)))))))) (pss_one (ps_ret pe_bl)) pss_nil))))))
    (pss_cons (ps_set (i := 10) sc_law.nd rfl (Or.inr rfl) (pe_ix ix_seq (pe_call0 G_law_no_zones (hr.mono (by decide)) rfl g__law_no_zones k_law_no_zones b_law_no_zones .nil pass0) (pe_call G_law_next (hr.mono (by decide)) rfl g__law_next k_law_next b_law_next .nil pass0 (pa_cons (pv 2) (pa_cons pe_int pa_nil))) (fun _ _ => rfl)))
    (pss_cons (ps_if (pt_cmpR (op_neD hr.units) (pe_lc (own := [("_law_way", 14)]) (g := gName 14) (tt := (tNot (tB (tCall (sp_law_refused K) [] E0 (tCons (tC (.str "zone")) (tCons (tVar 10) (tCons (tVar 14) tNil))))))) rfl sc_law.nd (pi_list (pv 7)) (blkOk_by (own := [("_law_way", 14)]) (N := ["_law_script", "_law_cell", "_law_state", "_law_moment_here", "_law_zone", "_law_one", "_law_other", "_law_ways", "_law_asked_here", "_law_found", "_law_bad", "_law_at", "_law_word", "_law_many", "_law_way"]) (sc := defScope s_law) (by decide +kernel)) (fun _ _ _ _ _ => pg_name (i := 14) sc_law.nd rfl (Or.inl rfl)) (fun _ _ _ _ _ => (pts_one (pt_not (pt_val (pe_call G_law_refused (hr.mono (by decide)) rfl g__law_refused k_law_refused b_law_refused .nil pass0 (pa_cons pe_str (pa_cons (pv 10) (pa_cons (pv 14) pa_nil)))))))) (fun _ _ _ _ _ => (pv 14))) (pe_lst pa_nil) (nomark _)) (pss_one (ps_ret pe_bl)) pss_nil)
    (pss_cons (ps_set (i := 11) sc_law.nd rfl (Or.inl rfl) (pe_call G_law_next (hr.mono (by decide)) rfl g__law_next k_law_next b_law_next .nil pass0 (pa_cons (pv 2) (pa_cons pe_int pa_nil))))
    (pss_one (ps_for PassesOwn.never rfl (pi_list (pe_lst (pa_cons (pe_tup (pa_cons pe_str (pa_cons pe_int pa_nil))) (pa_cons (pe_tup (pa_cons pe_str (pa_cons pe_int pa_nil))) pa_nil)))) (pg_tup (by rfl) (pgs_cons (pg_name (i := 12) sc_law.nd rfl (Or.inl rfl)) (pgs_cons (pg_name (i := 13) sc_law.nd rfl (Or.inl rfl)) pgs_nil)))
    (pss_one (ps_if (pt_not (pt_val (pe_call G_law_refused (hr.mono (by decide)) rfl g__law_refused k_law_refused b_law_refused .nil pass0 (pa_cons (pv 12) (pa_cons (pe_ix ix_seq (pe_call G_law_no_minutes (hr.mono (by decide)) rfl g__law_no_minutes k_law_no_minutes b_law_no_minutes .nil pass0 (pa_cons (pv 13) pa_nil)) (pv 11) (fun _ _ => rfl)) (pa_cons pe_non pa_nil)))))) (pss_one (ps_ret pe_bl)) pss_nil)))))))))))))))))
    (pss_one (ps_ret pe_bl)))
theorem ok_law (Z : Env K mg) : ∃ fd, FnOk P w K mg base CX0 10 (ga K "law") fd ["_law_script"] (sp_law K) ∧ Binds K fd ["_law_script"] [] ∧ PySem.W.keepIn K (.ref (ga K "law")) = true := by
  obtain ⟨fd, F⟩ := Z.c.def_ 27 (d := d_law) rfl
  exact ⟨fd, okA_law Z F, F.bindsN fun _ _ _ _ _ _ us hl => match us, hl with | [_], _ => rfl, F.kp⟩
end
/-! ### the head -/
abbrev R : PySem.W.OpenRow := PySem.W.OpenLaw.row PySem.Challenge.rw_bellsaway_k11_ways_and_their_moments
abbrev hk : PySem.W.Hook := hookM 5
def ob (s : PySem.W.SharedT) : AlM := obsM 5 (HandSHeadRun.getT s)
theorem ob_eq (s : PySem.W.SharedT) : ob s = hk.obs s.abs := by
  have e : HandSHeadRun.getT s = s.abs.heap.get? := funext (HandSHeadRun.getT_eq s)
  show obsM _ _ = obsM _ _
  rw [e]
theorem run (w : World) : HandSHeadRun.RunEq R (PySem.W.view R.prog [39]) hk ob 4000 ("BellError" :: "NoClock" :: "NoFit" :: "NoWish" :: "NoTime" :: "NoRow" :: "is_whole" :: "is_between" :: "DAY" :: "HOUR" :: "sure_zone" :: "sure_minute" :: "shown" :: "next_hour" :: "next_day" :: "Way" :: "Now" :: "Gathering" :: "Hour" :: "Day" :: "Never" :: "_law_cell_at" :: "_law_begin" :: "_law_next" :: "_law_moment" :: "_law_edge" :: "_law_no_minutes" :: "_law_no_zones" :: "_law_asked" :: "_law_refused" :: "_law_whole" :: "_law_kinds" :: "_law_made_right" :: "_law_next_right" :: []) w := by
  intro os
  kernel_rfl
theorem facts {P : Program} {w : World} {K : PySem.W.Frag} {h : Heap} {mg : Str → Option Value} {f : Addr} (X : K.In h) (G : h.Ns mainGlobals mg) (hfa : mg ("law" : Str) = some (.ref f)) (c : He.SaysD fa fn K ∧ (xs.all fun f => f K) = true) :
    ∃ fd : FuncData, (∀ (s : Shared) (v : Value), BindsTo s fd ⟨[v], []⟩ [("_law_script", v)]) ∧ ∀ base : Heap, K.In base → base.Ns mainGlobals mg → FnOk P w K mg base CX0 10 f fd ["_law_script"] (sp_law K) := by
  have Z : Env K mg := ⟨c.1, ⟨h, X, G⟩, c.2⟩
  obtain ⟨fd, F⟩ := c.1.def_ 27 (d := d_law) rfl
  have e := hfa.symm.trans (Z.glo 51 rfl)
  cases e
  have b := FunD.bindsA (ps := ["_law_script"]) F fun _ _ _ _ _ _ us hl => match us, hl with | [_], _ => rfl
  exact ⟨fd, fun s v => b s [v] rfl, fun base _ _ => okA_law Z F⟩
end Pr
open PySem PySem.W PySem.Calls PyProof.Rows
set_option maxRecDepth 100000 in
set_option maxHeartbeats 0 in
theorem PySem.Challenge.cw_bellsaway_k11_ways_and_their_moments_holds : PySem.Challenge.rw_bellsaway_k11_ways_and_their_moments.Holds := by
  w_on; o_law
  refine HandSHeadRun.head_any (r := OpenLaw.row PySem.Challenge.rw_bellsaway_k11_ways_and_their_moments) (q := view (OpenLaw.row PySem.Challenge.rw_bellsaway_k11_ways_and_their_moments).prog [39]) (H := Pr.hk) (ob := Pr.ob) (M := 4000) (loose := ("BellError" :: "NoClock" :: "NoFit" :: "NoWish" :: "NoTime" :: "NoRow" :: "is_whole" :: "is_between" :: "DAY" :: "HOUR" :: "sure_zone" :: "sure_minute" :: "shown" :: "next_hour" :: "next_day" :: "Way" :: "Now" :: "Gathering" :: "Hour" :: "Day" :: "Never" :: "_law_cell_at" :: "_law_begin" :: "_law_next" :: "_law_moment" :: "_law_edge" :: "_law_no_minutes" :: "_law_no_zones" :: "_law_asked" :: "_law_refused" :: "_law_whole" :: "_law_kinds" :: "_law_made_right" :: "_law_next_right" :: [])) (d := HandSHeadRun.topDef (OpenLaw.row PySem.Challenge.rw_bellsaway_k11_ways_and_their_moments).prog 39) (kwd := []) Pr.ob_eq
    (by kernel_rfl) (fun s => by kernel_rfl) Pr.run (by kernel_rfl) (by kernel_rfl) (by kernel_rfl) (by rfl) (by first | assumption | decide +kernel) (by decide +kernel) ⟨rfl, rfl, rfl, rfl, rfl, by decide +kernel⟩ ?hw ?hc
  case hw => w_witness2
  case hc =>
    refine L2.walk_ofE (l := PySem.Challenge.rw_bellsaway_k11_ways_and_their_moments) (n := 63) (k := 10) (x := "_law_script") (CX := L2.CX0) rfl (by decide) (by kernel_rfl) ⟨rfl, by decide, by decide⟩ ?F (fun _ _ _ _ z => z)
    intro w mg fa h Y G hmg0
    obtain ⟨K, KX, c⟩ := Y
    have hmg : mg ("law" : PySem.Str) = some (.ref fa) := by
      have e : (HandSHeadRun.topDef (OpenLaw.row PySem.Challenge.rw_bellsaway_k11_ways_and_their_moments).prog 39).name = ("law" : PySem.Str) := by kernel_rfl
      rw [← e]
      exact hmg0
    obtain ⟨fd, hb, hF⟩ := Pr.facts (P := (PySem.Challenge.rw_bellsaway_k11_ways_and_their_moments).prog) (w := w) KX G hmg c
    exact ⟨K, fd, Pr.sp_law K, KX, hb, fun H a ns hl _ hS => ⟨a, ns, rfl, hS, hl, fun _ => rfl⟩, hF⟩

