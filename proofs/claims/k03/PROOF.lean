import PyProof.Rows.All
import Wide.All
import OpenK.AllK
import Wide.FinOn
import KE.KStateDown
import HandS.Base
import HandS.Call
import HandS.List
import HandS.Comp
import HandS.Ends
import HandS.Dict
import HandS.Iter
import HandS.Text
import HandS.More
import HandS.Words
import HandS.WordsList
import HandS.WordsDict
import HandS.Exc
import HandS.ExcOwn
import HandS.TryOnly
import HandS.WordsExc
import HandS.Defaults
import HandS.Flow
import HandS.IsInst
import HandS.Style
import HandS.Wide
import HandS.Head0
import HandS.Head1
import HandS.Head2
import HandS.HeadEnd
import HandS.HeadHook1
import HandS.HeadHook2
import PySem.Challenge.RW_bellsaway_k03_loud_moments_and_counts
set_option Elab.async false
set_option linter.all false
set_option maxRecDepth 100000
set_option maxHeartbeats 4000000
/-! ## own stepping layer: one lemma a reading -/
namespace Vs
open PySem PySem.Spec PyProof.Rows L2

/-! ### frames of heaps -/
/-- all but l stands -/
def Kp (l : Addr) (H H' : Hp) : Prop := ∀ b o, H b = some o → b ≠ l → H' b = some o
theorem Kp.refl (l : Addr) (H : Hp) : Kp l H H := fun _ _ h _ => h
theorem Kp.trans {l : Addr} {H H1 H2 : Hp} (a : Kp l H H1) (b : Kp l H1 H2) : Kp l H H2 := fun x o h n => b x o (a x o h n) n
theorem Kp.upd {l : Addr} {H H1 : Hp} {o : HO} (a : Kp l H H1) : Kp l H (upd H1 l o) := fun x u h n => by rw [upd_ne n]; exact a x u h n
theorem Kp.new {l p : Addr} {H H1 : Hp} {o : HO} (a : Kp l H H1) (hp : H1 p = none) : Kp l H (L2.upd H1 p o) := fun x u h n => by
  have h1 := a x u h n
  rw [upd_ne (ne_of_none h1 hp)]; exact h1
theorem Same.new {p : Addr} {H H1 : Hp} {o : HO} (a : Same H H1) (hp : H1 p = none) : Same H (L2.upd H1 p o) := fun x u h => by
  have h1 := a x u h
  rw [upd_ne (ne_of_none h1 hp)]; exact h1
theorem Same.kp {l : Addr} {H H1 : Hp} (a : Same H H1) : Kp l H H1 := fun x u h _ => a x u h
theorem Kp.same {l : Addr} {H H1 H2 : Hp} (a : Kp l H H1) (b : Same H1 H2) : Kp l H H2 := fun x o h n => b x o (a x o h n)
theorem Same.kpt {l : Addr} {H H1 H2 : Hp} (a : Same H H1) (b : Kp l H1 H2) : Kp l H H2 := fun x o h n => b x o (a x o h) n
theorem Kp.at {l b : Addr} {H H' : Hp} {o : HO} (k : Kp l H H') (h : H b = some o) (n : b ≠ l) : H' b = some o := k b o h n
theorem free_back {H H' : Hp} {l p : Addr} {o : HO} (k : Kp l H H') (h : H' p = none) (hl : H' l = some o) : H p = none := by
  cases e : H p with
  | none => rfl
  | some u =>
    by_cases n : p = l
    · rw [n, hl] at h; cases h
    · rw [k p u e n] at h; cases h

theorem Kp.seq {K : PySem.W.Frag} {l a : Addr} {H H' : Hp} {xs : List V} (k : Kp l H H') (n : a ≠ l) (h : SqL K H a xs) : SqL K H' a xs := by
  rcases h with (h | ⟨o, h⟩) | h
  · exact .inl (.inl (k _ _ h n))
  · exact .inl (.inr ⟨o, k _ _ h n⟩)
  · exact .inr h
theorem Kp.seqn {K : PySem.W.Frag} {l a : Addr} {H H' : Hp} {xs : List V} (k : Kp l H H') (hl : H l = none) (h : SqL K H a xs) : SqL K H' a xs := by
  rcases h with (h | ⟨o, h⟩) | h
  · exact .inl (.inl (k _ _ h (ne_of_none h hl)))
  · exact .inl (.inr ⟨o, k _ _ h (ne_of_none h hl)⟩)
  · exact .inr h
theorem Same.ofKp {l : Addr} {H H1 H2 : Hp} {o : HO} (s : Same H H1) (hl : H1 l = none) (k : Kp l (L2.upd H1 l o) H2) : Same H H2 := fun b u h => by
  have h1 := s b u h
  have n := ne_of_none h1 hl
  exact k b u (by rw [upd_ne n]; exact h1) n
/-! ### the law's list of cells -/
theorem cutV_len (xs : List V) (lo hi : Option Int) : (cutV xs lo hi).length ≤ xs.length := by
  unfold cutV
  rw [List.length_take, List.length_drop]
  omega
theorem cutV_mem {xs : List V} {lo hi : Option Int} {x : V} (h : x ∈ cutV xs lo hi) : x ∈ xs := List.mem_of_mem_drop (List.mem_of_mem_take h)
theorem cells_int {ns : List Int} {c : Int} {lo hi : Option Int} {x : V} (h : x ∈ [V.int c] ++ cutV (ns.map V.int) lo hi) : ∃ z, x = .int z := by
  rcases List.mem_append.mp h with h | h
  · exact ⟨c, by simpa using h⟩
  · obtain ⟨z, _, e⟩ := List.mem_map.mp (cutV_mem h)
    exact ⟨z, e.symm⟩
theorem cells_len {ns : List Int} {c : Int} {lo hi : Option Int} (h : ns.length ≤ 63) : [V.int c].length + (cutV (ns.map V.int) lo hi).length ≤ sizeLine := by
  have h1 := cutV_len (ns.map V.int) lo hi
  rw [List.length_map] at h1
  have h2 : (64 : Nat) ≤ sizeLine := by rw [sizeLine_eq]; decide
  simp only [List.length_cons, List.length_nil]
  omega
/-! ### readings, one step each -/
section
variable {K : PySem.W.Frag} {σ : L2.St} {H : Hp} {Q : VK} {ta tb te tc : TE} {x y v : V} {r r' : R2} {T U : TT} {B : Bool → Hp → Prop} {D : Ends} {i j : Int}
theorem r_var {n : Nat} (h : σ[n]? = some (some v)) (q : Q v H) : tVar n σ H Q := ⟨v, h, q⟩
theorem r_c (q : Q v H) : tC v σ H Q := q
theorem r_op (q : ta σ H fun x H1 => tb σ H1 fun y H2 => r x y H2 Q) : tOp r ta tb σ H Q := q
theorem r_un {r : V → Hp → VK → Prop} (q : ta σ H fun x H1 => r x H1 Q) : tUn r ta σ H Q := q
theorem r_I0 {g : Int → Int → V} (q : Q (g i j) H) : rI0 g (.int i) (.int j) H Q := ⟨i, j, rfl, rfl, q⟩
theorem r_I {C : Int → Int → Prop} {g : Int → Int → V} (c : C i j) (q : Q (g i j) H) : rI C g (.int i) (.int j) H Q := ⟨i, j, rfl, rfl, c, q⟩
theorem r_U {g : Int → V} (q : Q (g i) H) : rU g (.int i) H Q := ⟨i, rfl, q⟩
theorem r_eqI (q : Q (.bl (decide (i = j))) H) : rEq (.int i) (.int j) H Q := ⟨rfl, by
  have e : decide (V.int i = V.int j) = decide (i = j) := by simp
  rw [e]; exact q⟩
theorem r_neI (q : Q (.bl (!decide (i = j))) H) : rNe (.int i) (.int j) H Q := ⟨rfl, by
  have e : decide (V.int i = V.int j) = decide (i = j) := by simp
  rw [e]; exact q⟩
theorem r_eqB {a b : Bool} (q : Q (.bl (decide (a = b))) H) : rEq (.bl a) (.bl b) H Q := ⟨rfl, by
  have e : decide (V.bl a = V.bl b) = decide (a = b) := by simp
  rw [e]; exact q⟩
theorem r_neB {a b : Bool} (q : Q (.bl (!decide (a = b))) H) : rNe (.bl a) (.bl b) H Q := ⟨rfl, by
  have e : decide (V.bl a = V.bl b) = decide (a = b) := by simp
  rw [e]; exact q⟩
theorem r_eqS {a b : Str} (q : Q (.bl (decide (a = b))) H) : rEq (.str a) (.str b) H Q := ⟨rfl, by
  have e : decide (V.str a = V.str b) = decide (a = b) := by simp
  rw [e]; exact q⟩
theorem r_neS {a b : Str} (q : Q (.bl (!decide (a = b))) H) : rNe (.str a) (.str b) H Q := ⟨rfl, by
  have e : decide (V.str a = V.str b) = decide (a = b) := by simp
  rw [e]; exact q⟩
theorem r_test (q : te σ H fun x H1 => ∃ k, x = .bl k ∧ B k H1) : tTest te σ H B := q
theorem r_tB (q : te σ H fun x H1 => ∃ k, x = .bl k ∧ B k H1) : tB te σ H B := q
theorem r_isbl {k : Bool} {P : Bool → Prop} (q : P k) : ∃ c, V.bl k = .bl c ∧ P c := ⟨k, rfl, q⟩
theorem r_and (q : T σ H fun c H1 => if c = true then U σ H1 B else B false H1) : tAnd T U σ H B := q
theorem r_or (q : T σ H fun c H1 => if c = true then B true H1 else U σ H1 B) : tOr T U σ H B := q
theorem r_not (q : T σ H fun c H1 => B (!c) H1) : tNot T σ H B := q
theorem r_andV (q : ta σ H fun x H1 => ∃ c, x = .bl c ∧ if c = true then tb σ H1 Q else Q (.bl false) H1) : tAndV ta tb σ H Q := q
theorem r_orV (q : ta σ H fun x H1 => ∃ c, x = .bl c ∧ if c = true then Q (.bl true) H1 else tb σ H1 Q) : tOrV ta tb σ H Q := q
theorem r_notV (q : ta σ H fun x H1 => ∃ c, x = .bl c ∧ Q (.bl (!c)) H1) : tNotV ta σ H Q := q
theorem r_if (q : T σ H fun c H1 => if c = true then ta σ H1 Q else tb σ H1 Q) : tIf T ta tb σ H Q := q
theorem r_chain (q : ta σ H fun x H1 => tb σ H1 fun y H2 => r x y H2 fun z H3 => ∃ k, z = .bl k ∧ (if k = true then tc σ H3 fun w' H4 => r' y w' H4 Q else Q (.bl false) H3)) : tChain r r' ta tb tc σ H Q := q
theorem r_nil {A : List V → Hp → Prop} (q : A [] H) : tNil σ H A := q
theorem r_cons {tr : TA} {A : List V → Hp → Prop} (q : ta σ H fun x H1 => tr σ H1 fun xs H2 => A (x :: xs) H2) : tCons ta tr σ H A := q
theorem r_tup {t : TA} (q : t σ H fun xs H1 => xs.length ≤ sizeLine ∧ ∀ p, H1 p = none → Q (.ref p) (upd H1 p (.tup xs))) : tTup t σ H Q := q
theorem r_lst {t : TA} (q : t σ H fun xs H1 => xs.length ≤ sizeLine ∧ ∀ p, H1 p = none → Q (.ref p) (upd H1 p (.lst xs))) : tLst t σ H Q := q
theorem r_size {xs : List V} {P : Prop} (h : xs.length ≤ 1000) (q : P) : xs.length ≤ sizeLine ∧ P := ⟨Nat.le_trans h (by rw [sizeLine_eq]; decide), q⟩
theorem r_call {sp : Sp} {dvs : List V} {E : XK} {t : TA} (q : t σ H fun vs H1 => sp (vs ++ dvs) H1 Q E) : tCall sp dvs E t σ H Q := q
theorem r_call0 {sp : Sp} {E : XK} {t : TA} (q : t σ H fun vs H1 => sp vs H1 Q E) : tCall sp [] E t σ H Q := by
  show t σ H fun vs H1 => sp (vs ++ []) H1 Q E
  have e : (fun vs H1 => sp (vs ++ []) H1 Q E) = fun vs H1 => sp vs H1 Q E := by funext vs H1; rw [List.append_nil]
  rw [e]; exact q
theorem r_cb {r : List V → Hp → VK → Prop} {t : TA} (q : t σ H fun vs H1 => r vs H1 Q) : tCB r t σ H Q := q
theorem r_bm {T : String} {r : V → List V → Hp → VK → Prop} {t : TA} (q : ta σ H fun x H1 => tyV K T x H1 ∧ t σ H1 fun xs H2 => r x xs H2 Q) : tBM K T r ta t σ H Q := q
theorem r_bm0 {T : String} {r : V → List V → Hp → VK → Prop} (q : ta σ H fun x H1 => tyV K T x H1 ∧ r x [] H1 Q) : tBM0 K T r ta σ H Q := q
theorem r_seq {t u : TS} {nx bk ct : L2.St → Hp → Prop} {rt : VK} (q : t (Ends.mk (u (Ends.mk nx rt bk ct)) rt bk ct) σ H) : tSeq t u (Ends.mk nx rt bk ct) σ H := q
theorem r_brk {nx bk ct : L2.St → Hp → Prop} {rt : VK} (q : bk σ H) : tBreak (Ends.mk nx rt bk ct) σ H := q
theorem r_cont {nx bk ct : L2.St → Hp → Prop} {rt : VK} (q : ct σ H) : tCont (Ends.mk nx rt bk ct) σ H := q
theorem r_next {nx bk ct : L2.St → Hp → Prop} {rt : VK} (q : nx σ H) : tNext (Ends.mk nx rt bk ct) σ H := q
theorem r_drop {nx bk ct : L2.St → Hp → Prop} {rt : VK} (q : te σ H fun _ H1 => nx σ H1) : tDrop te (Ends.mk nx rt bk ct) σ H := q
theorem r_ret {nx bk ct : L2.St → Hp → Prop} {rt : VK} (q : te σ H rt) : tRet te (Ends.mk nx rt bk ct) σ H := q
theorem r_retN {nx bk ct : L2.St → Hp → Prop} {rt : VK} (q : rt .non H) : tRetN (Ends.mk nx rt bk ct) σ H := q
theorem r_ifS {t u : TS} (q : T σ H fun b H1 => if b = true then t D σ H1 else u D σ H1) : tIfS T t u D σ H := q
theorem r_asg {g : TG} {nx bk ct : L2.St → Hp → Prop} {rt : VK} (q : te σ H fun x H1 => g x σ H1 nx) : tAsg te g (Ends.mk nx rt bk ct) σ H := q
theorem r_gName {n : Nat} {P : L2.St → Hp → Prop} (q : P (σ.set n (some v)) H) : gName n v σ H P := q
theorem r_gSub {to ti : TE} {t : TSet} {P : L2.St → Hp → Prop} (q : to σ H fun o H1 => ti σ H1 fun i H2 => t o i v H2 fun H3 => P σ H3) : gSub to ti t v σ H P := q
theorem r_sl {r : V → Option Int → Option Int → Hp → VK → Prop} {tl th : TO} (q : te σ H fun x H1 => tl σ H1 fun l H2 => th σ H2 fun u H3 => r x l u H3 Q) : tSl r te tl th σ H Q := q
theorem r_noPart {P : Option Int → Hp → Prop} (q : P none H) : tNoPart σ H P := q
theorem r_part {P : Option Int → Hp → Prop} (q : te σ H fun x H1 => ∃ i, x = .int i ∧ P (some i) H1) : tPart te σ H P := q
theorem r_isint {P : Int → Prop} (q : P i) : ∃ k, V.int i = .int k ∧ P k := ⟨i, rfl, q⟩
theorem r_gTup {n : Nat} {t : TGs} {a : Addr} {xs : List V} {P : L2.St → Hp → Prop} (h : SqT K H a xs) (e : xs.length = n) (q : t xs σ H P) : gTup K n t (.ref a) σ H P := ⟨a, xs, rfl, h, e, q⟩
theorem r_gCons {t : TG} {u : TGs} {vs : List V} {P : L2.St → Hp → Prop} (q : t v σ H fun σ' H' => u vs σ' H' P) : gCons t u (v :: vs) σ H P := ⟨v, vs, rfl, q⟩
theorem r_gNil {P : L2.St → Hp → Prop} (q : P σ H) : gNil [] σ H P := ⟨rfl, q⟩
theorem ite_t {A B : Prop} (h : A) : if true = true then A else B := by rw [if_pos rfl]; exact h
theorem ite_f {A B : Prop} (h : B) : if false = true then A else B := by rw [if_neg Bool.false_ne_true]; exact h
theorem ite_nt {A B : Prop} (h : B) : if (!true) = true then A else B := ite_f h
theorem ite_nf {A B : Prop} (h : A) : if (!false) = true then A else B := ite_t h
theorem ite_y {p : Prop} {i : Decidable p} {A B : Prop} (hp : p) (h : A) : if decide p = true then A else B := by rw [decide_eq_true hp]; exact ite_t h
theorem ite_n {p : Prop} {i : Decidable p} {A B : Prop} (hp : ¬ p) (h : B) : if decide p = true then A else B := by rw [decide_eq_false hp]; exact ite_f h
theorem ite_ny {p : Prop} {i : Decidable p} {A B : Prop} (hp : p) (h : B) : if (!decide p) = true then A else B := by rw [decide_eq_true hp]; exact ite_f h
theorem ite_nn {p : Prop} {i : Decidable p} {A B : Prop} (hp : ¬ p) (h : A) : if (!decide p) = true then A else B := by rw [decide_eq_false hp]; exact ite_t h
theorem ite_d {p : Prop} {i : Decidable p} {A B : Prop} (h1 : p → A) (h2 : ¬ p → B) : if decide p = true then A else B := by
  by_cases h : p
  · exact ite_y h (h1 h)
  · exact ite_n h (h2 h)
theorem ite_nd {p : Prop} {i : Decidable p} {A B : Prop} (h1 : ¬ p → A) (h2 : p → B) : if (!decide p) = true then A else B := by
  by_cases h : p
  · exact ite_ny h (h2 h)
  · exact ite_nn h (h1 h)
theorem upd2 {H : Hp} {a : Addr} {o u : HO} : upd (upd H a o) a u = upd H a u := upd_upd
theorem upd_id {H : Hp} {a : Addr} {o : HO} (h : H a = some o) : upd H a o = H := by
  funext b
  by_cases hb : b = a
  · rw [hb, upd_same, h]
  · rw [upd_ne hb]
theorem q_t {Q : VK} {H : Hp} {p : Prop} {i : Decidable p} (hp : p) (q : Q (.bl true) H) : Q (.bl (@decide p i)) H := by rw [decide_eq_true hp]; exact q
theorem ite_bt {b : Bool} {A B : Prop} (h : b = true) (q : A) : if b = true then A else B := by rw [h]; exact ite_t q
theorem ite_bf {b : Bool} {A B : Prop} (h : b = false) (q : B) : if b = true then A else B := by rw [h]; exact ite_f q
theorem q_bl {Q : VK} {H : Hp} {b c : Bool} (h : b = c) (q : Q (.bl b) H) : Q (.bl c) H := h ▸ q
theorem ite_b {b : Bool} {A B : Prop} (h1 : b = true → A) (h2 : b = false → B) : if b = true then A else B := by
  cases b
  · exact ite_f (h2 rfl)
  · exact ite_t (h1 rfl)
/-! items -/
theorem r_ixL {p : Addr} {xs : List V} (h : SqL K H p xs) (ha : atI xs i = some v) (q : Q v H) : rIx K (.ref p) (.int i) H Q := .inl ⟨p, xs, i, v, rfl, rfl, h, ha, q⟩
theorem r_ixT {p : Addr} {xs : List V} (h : SqT K H p xs) (ha : atI xs i = some v) (q : Q v H) : rIx K (.ref p) (.int i) H Q := .inr (.inl ⟨p, xs, i, v, rfl, rfl, h, ha, q⟩)
theorem r_ixS {z : Str} {c : Nat} (h : z.length ≤ sizeLine) (ha : atI z.cps.toList i = some c) (q : Q (.str ⟨#[c]⟩) H) : rIx K (.str z) (.int i) H Q := .inr (.inr ⟨z, i, c, rfl, rfl, h, ha, q⟩)
theorem r_setL {p : Addr} {xs : List V} {n : Nat} {P : Hp → Prop} (h : H p = some (.lst xs)) (e : ixN xs.length i = some n) (q : P (upd H p (.lst (xs.set n v)))) : rSetL (.ref p) (.int i) v H P := ⟨p, xs, i, n, rfl, rfl, h, e, q⟩
theorem r_slL {p : Addr} {xs : List V} {lo hi : Option Int} (h : SqL K H p xs) (q : ∀ a, H a = none → Q (.ref a) (upd H a (.lst (cutV xs lo hi)))) : rSlL K (.ref p) lo hi H Q := ⟨p, xs, rfl, h, q⟩
theorem r_cat {p b : Addr} {xs ys : List V} (h : H p = some (.lst xs)) (h2 : H b = some (.lst ys)) (hl : xs.length + ys.length ≤ sizeLine) (q : ∀ a, H a = none → Q (.ref a) (upd H a (.lst (xs ++ ys)))) : rCat (.ref p) (.ref b) H Q := ⟨p, b, xs, ys, rfl, rfl, h, h2, hl, q⟩
theorem r_app {p : Addr} {xs : List V} (h : H p = some (.lst xs)) (hl : xs.length < sizeLine) (q : Q .non (upd H p (.lst (xs ++ [v])))) : rAppend (.ref p) [v] H Q := ⟨p, xs, v, rfl, rfl, h, hl, q⟩
theorem r_tyl {p : Addr} {xs : List V} {P : Prop} (h : H p = some (.lst xs)) (q : P) : tyV K "list" (.ref p) H ∧ P := ⟨Or.inl ⟨rfl, _, Or.inl (Or.inl h)⟩, q⟩
theorem r_isB {a b : Bool} (q : Q (.bl (decide (a = b))) H) : rIsB (.bl a) (.bl b) H Q := ⟨a, b, rfl, rfl, q⟩
theorem r_notB {a b : Bool} (q : Q (.bl (!decide (a = b))) H) : rNotB (.bl a) (.bl b) H Q := ⟨a, b, rfl, rfl, q⟩
theorem r_rep {p : Addr} {xs : List V} (h : H p = some (.lst xs)) (h0 : 0 ≤ i) (h1 : i ≤ 100000) (hl : xs.length * i.toNat ≤ sizeLine) (q : ∀ a, H a = none → Q (.ref a) (upd H a (.lst ((List.replicate i.toNat xs).flatten)))) : rRep (.ref p) (.int i) H Q := ⟨p, i, xs, rfl, rfl, h, by omega, by omega, hl, q⟩
/-! data compared -/
theorem r_eqDe {d e : PyData} (hx : Dp K H x d) (hy : Dp K H y e) (sd : SeqAt.shaped d = true) (h : d = e) (q : Q (.bl true) H) : rEqD K x y H Q := ⟨d, e, hx, hy, sd, h ▸ sd, by rw [← h, SeqAt.eqv_refl _ (SeqAt.canLay_of_shaped sd)]; exact q⟩
theorem r_neDe {d e : PyData} (hx : Dp K H x d) (hy : Dp K H y e) (sd : SeqAt.shaped d = true) (h : d = e) (q : Q (.bl false) H) : rNeD K x y H Q := ⟨d, e, hx, hy, sd, h ▸ sd, by rw [← h, SeqAt.eqv_refl _ (SeqAt.canLay_of_shaped sd)]; exact q⟩
/-! built-ins by name -/
def rInt1 : List V → Hp → VK → Prop := fun xs H Q => (∃ i, xs = [.int i] ∧ Q (.int i) H) ∨ ∃ k : Bool, xs = [.bl k] ∧ Q (.int (if k then 1 else 0)) H
def rDivmod : List V → Hp → VK → Prop := fun xs H Q => ∃ i j, xs = [.int i, .int j] ∧ CDiv i j ∧ ∀ p, H p = none → Q (.ref p) (upd H p (.tup [.int (i / j), .int (i % j)]))
def rMin2 : List V → Hp → VK → Prop := fun xs H Q => ∃ i j : Int, xs = [.int i, .int j] ∧ Q (.int (if j < i then j else i)) H
def rMax2 : List V → Hp → VK → Prop := fun xs H Q => ∃ i j : Int, xs = [.int i, .int j] ∧ Q (.int (if j > i then j else i)) H
def rAddS : R2 := fun x y H Q => ∃ i j, x = .str i ∧ y = .str j ∧ i.length + j.length ≤ sizeLine ∧ Q (.str (i ++ j)) H
def rIsN : R2 := fun x y H Q => y = .non ∧ Q (.bl (decide (x = .non))) H
def rNotN : R2 := fun x y H Q => y = .non ∧ Q (.bl (!decide (x = .non))) H
def tTru (K : PySem.W.Frag) (ta : TE) : TT := fun σ H Q => ta σ H fun x H' => ∃ k, TruV K x H' k ∧ Q k H'
theorem r_min2 (q : Q (.int (if j < i then j else i)) H) : rMin2 [.int i, .int j] H Q := ⟨i, j, rfl, q⟩
theorem r_max2 (q : Q (.int (if j > i then j else i)) H) : rMax2 [.int i, .int j] H Q := ⟨i, j, rfl, q⟩
theorem r_lenL {p : Addr} {xs : List V} (h : SqL K H p xs) (q : Q (.int (xs.length : Nat)) H) : rLen K [.ref p] H Q := ⟨_, _, rfl, .inl ⟨_, h, rfl⟩, q⟩
theorem r_lenT {p : Addr} {xs : List V} (h : SqT K H p xs) (q : Q (.int (xs.length : Nat)) H) : rLen K [.ref p] H Q := ⟨_, _, rfl, .inr ⟨_, h, rfl⟩, q⟩
theorem r_lenS {z : Str} (h : z.length ≤ sizeLine) (q : Q (.int (z.length : Nat)) H) : rLen K [.str z] H Q := ⟨_, _, rfl, ⟨h, rfl⟩, q⟩
theorem r_int1i (q : Q (.int i) H) : rInt1 [.int i] H Q := .inl ⟨_, rfl, q⟩
theorem r_int1b {b : Bool} (q : Q (.int (if b then 1 else 0)) H) : rInt1 [.bl b] H Q := .inr ⟨_, rfl, q⟩
theorem r_divmod (c : CDiv i j) (q : ∀ p, H p = none → Q (.ref p) (upd H p (.tup [.int (i / j), .int (i % j)]))) : rDivmod [.int i, .int j] H Q := ⟨i, j, rfl, c, q⟩
theorem r_isi {a b : String} {c : Bool} (ty : TyX K H x (.type a)) (h : kitB a b = some c) (q : Q (.bl c) H) : rIsi K [x, .ty b] H Q := ⟨x, _, _, _, c, rfl, .ty b, ty, kit_ty h, q⟩
theorem r_isN (q : Q (.bl (decide (x = .non))) H) : rIsN x .non H Q := ⟨rfl, q⟩
theorem r_notN (q : Q (.bl (!decide (x = .non))) H) : rNotN x .non H Q := ⟨rfl, q⟩
theorem r_tru {b : Bool} (h : te σ H fun x H1 => ∃ k, TruV K x H1 k ∧ B k H1) : tTru K te σ H B := h
end
theorem pe_pow2 {X : Cx} {a b r : Int} {j j' p p' pos} (h : a ^ b.toNat = r) (hc : CPow a b) : PE X (.BinOp (.Constant (.int a) j p) .Pow (.Constant (.int b) j' p') pos) (tC (.int r)) :=
  ⟨fun pins s σ H Q I hq => (pe_op op_pow pe_int pe_int).run pins s σ H Q I ⟨a, b, rfl, rfl, hc, (show Q (.int (a ^ b.toNat)) H from by rw [h]; exact hq)⟩⟩
/-! ### loops -/
section
variable {K : PySem.W.Frag} {σ : L2.St} {H : Hp} {D : Ends} {g : TG} {tb : TS} {ta : TA} {te : TE} {wi : TI} {R : It → Hp → Prop}
def ForW (J : It) (g : TG) (tb : TS) (D : Ends) (σ : L2.St) (H1 : Hp) : Prop := ∃ W : Nat → Nat → L2.St → Hp → Prop, (∃ m, W 0 m σ H1) ∧ ∀ i m σ H, W i m σ H →
  (J.stop i H ∧ D.nx σ H) ∨ (J.go i H ∧ ∃ N : L2.St → Hp → Prop, (∀ σ' H', N σ' H' → ∃ m', m' < m ∧ W (i + 1) m' σ' H') ∧ ∀ x H', J.yld i H x H' → g x σ H' fun σ2 H2 => tb { D with nx := N, ct := N, bk := D.nx } σ2 H2)
theorem r_for (q : wi σ H fun J H1 => ForW J g tb D σ H1) : tFor wi g tb D σ H := q
section
variable {nx bk ct : L2.St → Hp → Prop} {rt : VK}
/-- over a list that stands; what follows a turn is a letter -/
theorem r_loopL {p : Addr} {xs : List V} (Pv : Nat → L2.St → Hp → Prop) (hx : SqL K H p xs) (h0 : Pv 0 σ H) (hl : ∀ i σ' H', Pv i σ' H' → SqL K H' p xs)
    (hs : ∀ (i : Nat) (x : V) (σ' : L2.St) (H' : Hp) (N : L2.St → Hp → Prop), xs[i]? = some x → Pv i σ' H' → (∀ σ2 H2, Pv (i + 1) σ2 H2 → N σ2 H2) → g x σ' H' fun σ2 H2 => tb (Ends.mk N rt nx N) σ2 H2)
    (hd : ∀ σ' H', Pv xs.length σ' H' → nx σ' H') : ∃ a, V.ref p = .ref a ∧ (∃ xs, SqL K H a xs) ∧ ForW (Itl K a) g tb (Ends.mk nx rt bk ct) σ H :=
  ⟨p, rfl, ⟨xs, hx⟩, for_list (D := Ends.mk nx rt bk ct) Pv h0 (fun i σ' H' _ p => hl i σ' H' p) (fun i x σ' H' hi p => hs i x σ' H' _ hi p fun _ _ z => z) hd⟩
theorem r_loopT {p : Addr} {xs : List V} (Pv : Nat → L2.St → Hp → Prop) (hx : SqT K H p xs) (h0 : Pv 0 σ H) (hl : ∀ i σ' H', Pv i σ' H' → SqT K H' p xs)
    (hs : ∀ (i : Nat) (x : V) (σ' : L2.St) (H' : Hp) (N : L2.St → Hp → Prop), xs[i]? = some x → Pv i σ' H' → (∀ σ2 H2, Pv (i + 1) σ2 H2 → N σ2 H2) → g x σ' H' fun σ2 H2 => tb (Ends.mk N rt nx N) σ2 H2)
    (hd : ∀ σ' H', Pv xs.length σ' H' → nx σ' H') : ∃ a, V.ref p = .ref a ∧ (∃ xs, SqT K H a xs) ∧ ForW (Itt K a) g tb (Ends.mk nx rt bk ct) σ H :=
  ⟨p, rfl, ⟨xs, hx⟩, for_tup (D := Ends.mk nx rt bk ct) Pv h0 (fun i σ' H' _ p => hl i σ' H' p) (fun i x σ' H' hi p => hs i x σ' H' _ hi p fun _ _ z => z) hd⟩
theorem r_loopR1 {j : Int} (Pv : Nat → L2.St → Hp → Prop) (b : -1000000000 ≤ j ∧ j ≤ 1000000000) (h0 : Pv 0 σ H)
    (hs : ∀ (i : Nat) (σ' : L2.St) (H' : Hp) (N : L2.St → Hp → Prop), i < j.toNat → Pv i σ' H' → (∀ σ2 H2, Pv (i + 1) σ2 H2 → N σ2 H2) → g (.int (i : Int)) σ' H' fun σ2 H2 => tb (Ends.mk N rt nx N) σ2 H2)
    (hd : ∀ σ' H', Pv j.toNat σ' H' → nx σ' H') : ∃ k : Int, [V.int j] = [.int k] ∧ -(2 ^ 62) ≤ k ∧ k < 2 ^ 62 ∧ ForW (Itr 0 k.toNat) g tb (Ends.mk nx rt bk ct) σ H :=
  ⟨j, rfl, by omega, by omega, for_range (D := Ends.mk nx rt bk ct) Pv h0 (fun i σ' H' hi p => by
    have e : (0 : Int) + (i : Int) = (i : Int) := Int.zero_add _
    rw [e]
    exact hs i σ' H' _ hi p fun _ _ z => z) hd⟩
theorem r_loopR2 {a j : Int} (Pv : Nat → L2.St → Hp → Prop) (b : -1000000000000000 ≤ a ∧ a ≤ 1000000000000000 ∧ -1000000000000000 ≤ j ∧ j ≤ 1000000000000000) (h0 : Pv 0 σ H)
    (hs : ∀ (i : Nat) (σ' : L2.St) (H' : Hp) (N : L2.St → Hp → Prop), i < (j - a).toNat → Pv i σ' H' → (∀ σ2 H2, Pv (i + 1) σ2 H2 → N σ2 H2) → g (.int (a + (i : Int))) σ' H' fun σ2 H2 => tb (Ends.mk N rt nx N) σ2 H2)
    (hd : ∀ σ' H', Pv (j - a).toNat σ' H' → nx σ' H') : ∃ k l : Int, [V.int a, V.int j] = [.int k, .int l] ∧ (-(2 ^ 62) ≤ k ∧ k < 2 ^ 62 ∧ -(2 ^ 62) ≤ l ∧ l < 2 ^ 62) ∧ ForW (Itr k (l - k).toNat) g tb (Ends.mk nx rt bk ct) σ H :=
  ⟨a, j, rfl, ⟨by omega, by omega, by omega, by omega⟩, for_range (D := Ends.mk nx rt bk ct) Pv h0 (fun i σ' H' hi p => hs i σ' H' _ hi p fun _ _ z => z) hd⟩
end
theorem r_iList (q : te σ H fun x H1 => ∃ a, x = .ref a ∧ (∃ xs, SqL K H1 a xs) ∧ R (Itl K a) H1) : iList K te σ H R := q
theorem r_iTup (q : te σ H fun x H1 => ∃ a, x = .ref a ∧ (∃ xs, SqT K H1 a xs) ∧ R (Itt K a) H1) : iTup K te σ H R := q
theorem r_iRng1 (q : ta σ H fun vs H1 => ∃ j : Int, vs = [.int j] ∧ -(2 ^ 62) ≤ j ∧ j < 2 ^ 62 ∧ R (Itr 0 j.toNat) H1) : iRng1 ta σ H R := q
theorem r_iRng2 (q : ta σ H fun vs H1 => ∃ i j : Int, vs = [.int i, .int j] ∧ (-(2 ^ 62) ≤ i ∧ i < 2 ^ 62 ∧ -(2 ^ 62) ≤ j ∧ j < 2 ^ 62) ∧ R (Itr i (j - i).toNat) H1) : iRng2 ta σ H R := q
end
/-! ### ranges by a step -/
theorem rg_up {a b c : Int} (h1 : 1 ≤ c) (h2 : c ≤ 1000000) (ha : -1000000000 ≤ a) (ha' : a ≤ 1000000000) (hb : -1000000000 ≤ b) (hb' : b ≤ 1000000000) : RgC a b c (if a < b then ((b - a - 1) / c + 1).toNat else 0) := by
  have hc : c > 0 := by omega
  have e : Builtin.Range.rangeSize a b c = if a < b then (b - a - 1) / c + 1 else 0 := by
    unfold Builtin.Range.rangeSize
    rw [if_pos hc]
  by_cases hab : a < b
  · have q0 : 0 ≤ (b - a - 1) / c := Int.ediv_nonneg (by omega) (by omega)
    have q1 : (b - a - 1) / c ≤ b - a - 1 := Int.ediv_le_self _ (by omega)
    have q2 : (b - a - 1) / c * c ≤ b - a - 1 := Int.ediv_mul_le _ (by omega)
    rw [if_pos hab] at e ⊢
    refine ⟨by omega, by omega, ?_, ?_⟩
    · unfold Builtin.Range.small
      rw [e]
      have q3 : ((b - a - 1) / c + 1) * c = (b - a - 1) / c * c + c := by rw [Int.add_mul, Int.one_mul]
      have q4 : ((b - a - 1) / c + 1 - 1) * c = (b - a - 1) / c * c := by rw [Int.add_sub_cancel]
      have q5 : 0 ≤ (b - a - 1) / c * c := Int.mul_nonneg q0 (by omega)
      simp only [Builtin.Range.rangeFitsLong, Bool.and_eq_true, Bool.or_eq_true, decide_eq_true_eq, beq_iff_eq, hc, if_true]
      first | omega | (simp only [q3, q4]; omega) | (split <;> omega)
    · rw [e]; omega
  · rw [if_neg hab] at e ⊢
    refine ⟨by omega, by omega, ?_, ?_⟩
    · unfold Builtin.Range.small
      rw [e]
      simp only [Builtin.Range.rangeFitsLong, Bool.and_eq_true, Bool.or_eq_true, decide_eq_true_eq, beq_iff_eq, hc, if_true]
      first | omega | (split <;> omega) | simp <;> omega
    · rw [e]; rfl
/-! ### comprehensions whose elements leave the heap -/
section
variable {K : PySem.W.Frag} {σ : L2.St} {H : Hp} {Q : VK} {g : TG} {tt : TT} {te : TE} {wi : TI} {ws : List Nat}
def LcW (J : It) (g : TG) (tt : TT) (te : TE) (vs : List Nat) (σ : L2.St) (H1 : Hp) (Q : VK) : Prop := ∀ D, H1 D = none → ∃ W : Nat → Nat → Hp → Prop, (∃ m, W 0 m (upd H1 D (.lst []))) ∧ ∀ i m H, W i m H →
  (J.stop i H ∧ Q (.ref D) H) ∨ (J.go i H ∧ ∃ Nx : Hp → Prop, (∀ H', Nx H' → ∃ m', m' < m ∧ W (i + 1) m' H') ∧ ∀ x H', J.yld i H x H' → g x (wipe σ vs) H' fun σ2 H2 => wipe σ2 vs = wipe σ vs ∧ tt σ2 H2 fun b H3 =>
    if b = true then te σ2 H3 fun y H4 => ∃ acc, H4 D = some (.lst acc) ∧ acc.length < sizeLine ∧ Nx (upd H4 D (.lst (acc ++ [y]))) else Nx H3)
theorem r_lc (q : wi σ H fun J H1 => LcW J g tt te ws σ H1 Q) : tLc wi g tt te ws σ H Q := q
theorem map_step {xs : List V} {f : V → V} {i : Nat} {x : V} (h : xs[i]? = some x) : (xs.take i).map f ++ [f x] = (xs.take (i + 1)).map f := by
  have hl : i < xs.length := (List.getElem?_eq_some_iff.mp h).1
  have e : xs.take (i + 1) = xs.take i ++ [x] := by
    rw [List.take_add_one, h]; rfl
  rw [e, List.map_append]; rfl
/-- over a list, no test -/
theorem r_lcP {j : Nat} {p : Addr} {xs : List V} (f : V → V) (hx : SqL K H p xs) (hz : xs.length ≤ 100000) (hw : ∀ x, wipe ((wipe σ ws).set j (some x)) ws = wipe σ ws)
    (he : ∀ (x : V) (D : Addr) (acc : List V) (Q' : VK), x ∈ xs → H D = none → Q' (f x) (upd H D (.lst acc)) → te ((wipe σ ws).set j (some x)) (upd H D (.lst acc)) Q') (q : ∀ D, H D = none → Q (.ref D) (upd H D (.lst (xs.map f)))) :
    ∃ a, V.ref p = .ref a ∧ (∃ xs, SqL K H a xs) ∧ LcW (Itl K a) (gName j) tYes te ws σ H Q := by
  refine ⟨p, rfl, ⟨xs, hx⟩, fun D hD => lc_list (K := K) (a := p) (xs := xs) (fun i H' => H' = upd H D (.lst ((xs.take i).map f))) (by simp) (fun i H' _ e => ?_) (fun i x H' hi e => ?_) (fun H' e => ?_)⟩
  · rw [e]; exact Same.seq (Same.new (Same.refl H) hD) hx
  · subst e
    refine ⟨hw x, ?_⟩
    show te _ _ _
    refine he x D _ _ (List.mem_of_getElem? hi) hD ⟨_, upd_same, ?_, ?_⟩
    · rw [List.length_map, List.length_take]
      have h2 : (100000 : Nat) < sizeLine := by rw [sizeLine_eq]; decide
      omega
    · rw [upd2, map_step hi]
  · subst e
    rw [List.take_length]
    exact q D hD
theorem r_lcPT {j : Nat} {p : Addr} {xs : List V} (f : V → V) (hx : SqT K H p xs) (hz : xs.length ≤ 100000) (hw : ∀ x, wipe ((wipe σ ws).set j (some x)) ws = wipe σ ws)
    (he : ∀ (x : V) (D : Addr) (acc : List V) (Q' : VK), x ∈ xs → H D = none → Q' (f x) (upd H D (.lst acc)) → te ((wipe σ ws).set j (some x)) (upd H D (.lst acc)) Q') (q : ∀ D, H D = none → Q (.ref D) (upd H D (.lst (xs.map f)))) :
    ∃ a, V.ref p = .ref a ∧ (∃ xs, SqT K H a xs) ∧ LcW (Itt K a) (gName j) tYes te ws σ H Q := by
  refine ⟨p, rfl, ⟨xs, hx⟩, fun D hD => lc_tup (K := K) (a := p) (xs := xs) (fun i H' => H' = upd H D (.lst ((xs.take i).map f))) (by simp) (fun i H' _ e => ?_) (fun i x H' hi e => ?_) (fun H' e => ?_)⟩
  · rw [e]
    rcases hx with (h | ⟨o, h⟩) | h
    · exact .inl (.inl (Same.new (Same.refl H) hD _ _ h))
    · exact .inl (.inr ⟨o, Same.new (Same.refl H) hD _ _ h⟩)
    · exact .inr h
  · subst e
    refine ⟨hw x, ?_⟩
    show te _ _ _
    refine he x D _ _ (List.mem_of_getElem? hi) hD ⟨_, upd_same, ?_, ?_⟩
    · rw [List.length_map, List.length_take]
      have h2 : (100000 : Nat) < sizeLine := by rw [sizeLine_eq]; decide
      omega
    · rw [upd2, map_step hi]
  · subst e
    rw [List.take_length]
    exact q D hD
theorem r_all {p : Addr} {bs : List Bool} (h : SqL K H p (bs.map V.bl)) (q : Q (.bl (bs.all id)) H) : rAll K [.ref p] H Q := ⟨p, bs, rfl, h, q⟩
theorem r_sum {p : Addr} {ns : List Int} (h : SqL K H p (ns.map V.int)) (q : Q (.int ns.sum) H) : rSum K [.ref p] H Q := ⟨p, ns, rfl, h, q⟩
theorem r_any {p : Addr} {bs : List Bool} (h : SqL K H p (bs.map V.bl)) (q : Q (.bl (bs.any id)) H) : rAny K [.ref p] H Q := ⟨p, bs, rfl, h, q⟩
end
/-! ### while -/
section
variable {σ : L2.St} {H : Hp} {c : TT} {tb : TS} {nx bk ct : L2.St → Hp → Prop} {rt : VK}
/-- what is wanted behind a while's test -/
def WhB (W : Nat → L2.St → Hp → Prop) (m : Nat) (tb : TS) (nx : L2.St → Hp → Prop) (rt : VK) (b : Bool) (σ : L2.St) (H : Hp) : Prop :=
  if b = true then ∃ N : L2.St → Hp → Prop, (∀ σ' H', N σ' H' → ∃ m', m' < m ∧ W m' σ' H') ∧ tb (Ends.mk N rt nx N) σ H else nx σ H
theorem whB {W : Nat → L2.St → Hp → Prop} {m : Nat} {b : Bool} (h1 : b = true → ∀ N : L2.St → Hp → Prop, (∀ m' σ2 H2, m' < m → W m' σ2 H2 → N σ2 H2) → tb (Ends.mk N rt nx N) σ H) (h2 : b = false → nx σ H) : WhB W m tb nx rt b σ H := by
  cases b with
  | true => exact ite_t ⟨_, fun _ _ z => z, h1 rfl _ fun m' σ2 H2 a b => ⟨m', a, b⟩⟩
  | false => exact ite_f (h2 rfl)
theorem r_while (W : Nat → L2.St → Hp → Prop) (m0 : Nat) (h0 : W m0 σ H)
    (hs : ∀ (m : Nat) (σ' : L2.St) (H' : Hp), W m σ' H' → c σ' H' fun b H1 => WhB W m tb nx rt b σ' H1) : tWhile c tb (Ends.mk nx rt bk ct) σ H := ⟨W, ⟨m0, h0⟩, hs⟩
end
theorem r_iRng3 {σ : L2.St} {H : Hp} {ta : TA} {R : It → Hp → Prop} (q : ta σ H fun vs H1 => ∃ (i j c : Int) (n : Nat), vs = [.int i, .int j, .int c] ∧ RgC i j c n ∧ R (Itc i c n) H1) : iRng3 ta σ H R := q
theorem r_loopR3 {σ : L2.St} {H : Hp} {g : TG} {tb : TS} {nx bk ct : L2.St → Hp → Prop} {rt : VK} {a b c : Int} (Pv : Nat → L2.St → Hp → Prop) (h1 : 1 ≤ c ∧ c ≤ 1000000) (ha : -1000000000 ≤ a ∧ a ≤ 1000000000) (hb : -1000000000 ≤ b ∧ b ≤ 1000000000) (h0 : Pv 0 σ H)
    (hs : ∀ (i : Nat) (σ' : L2.St) (H' : Hp) (N : L2.St → Hp → Prop), i < (if a < b then ((b - a - 1) / c + 1).toNat else 0) → Pv i σ' H' → (∀ σ2 H2, Pv (i + 1) σ2 H2 → N σ2 H2) → g (.int (a + (i : Nat) * c)) σ' H' fun σ2 H2 => tb (Ends.mk N rt nx N) σ2 H2)
    (hd : ∀ σ' H', Pv (if a < b then ((b - a - 1) / c + 1).toNat else 0) σ' H' → nx σ' H') :
    ∃ (i j k : Int) (n : Nat), [V.int a, V.int b, V.int c] = [.int i, .int j, .int k] ∧ RgC i j k n ∧ ForW (Itc i k n) g tb (Ends.mk nx rt bk ct) σ H :=
  ⟨a, b, c, _, rfl, rg_up h1.1 h1.2 ha.1 ha.2 hb.1 hb.2, for_rangeC (D := Ends.mk nx rt bk ct) Pv h0 (fun i σ' H' hi p => hs i σ' H' _ hi p fun _ _ z => z) hd⟩
/-! ### tests that leave the heap: what they tell as one proposition -/
def Pu (T : TT) (σ : L2.St) (H : Hp) (p : Prop) : Prop := ∃ b : Bool, (b = true ↔ p) ∧ ∀ B : Bool → Hp → Prop, B b H → T σ H B
section
variable {σ : L2.St} {H : Hp} {T U : TT} {p q : Prop} {D : Ends} {t u : TS} {ta tb : TE} {Q : VK}
theorem pu_and (h1 : Pu T σ H p) (h2 : p → Pu U σ H q) : Pu (tAnd T U) σ H (p ∧ q) := by
  obtain ⟨b, e, h1⟩ := h1
  cases b with
  | false => exact ⟨false, ⟨fun z => (nomatch z), fun z => e.mpr z.1⟩, fun B hB => h1 _ (ite_f hB)⟩
  | true =>
    obtain ⟨c, e2, h2⟩ := h2 (e.mp rfl)
    exact ⟨c, ⟨fun z => ⟨e.mp rfl, e2.mp z⟩, fun z => e2.mpr z.2⟩, fun B hB => h1 _ (ite_t (h2 _ hB))⟩
theorem pu_or (h1 : Pu T σ H p) (h2 : ¬ p → Pu U σ H q) : Pu (tOr T U) σ H (p ∨ q) := by
  obtain ⟨b, e, h1⟩ := h1
  cases b with
  | true => exact ⟨true, ⟨fun _ => .inl (e.mp rfl), fun _ => rfl⟩, fun B hB => h1 _ (ite_t hB)⟩
  | false =>
    have hn : ¬ p := fun z => nomatch e.mpr z
    obtain ⟨c, e2, h2⟩ := h2 hn
    exact ⟨c, ⟨fun z => .inr (e2.mp z), fun z => z.elim (fun y => absurd y hn) e2.mpr⟩, fun B hB => h1 _ (ite_f (h2 _ hB))⟩
theorem pu_not (h1 : Pu T σ H p) : Pu (tNot T) σ H (¬ p) := by
  obtain ⟨b, e, h1⟩ := h1
  refine ⟨!b, ?_, fun B hB => h1 _ hB⟩
  cases b
  · exact ⟨fun _ z => (nomatch e.mpr z), fun _ => rfl⟩
  · exact ⟨fun z => (nomatch z), fun z => absurd (e.mp rfl) z⟩
theorem dec_n {i : Decidable p} : (!(@decide p i)) = true ↔ ¬ p := by
  cases i with
  | isTrue y => exact ⟨fun z => (nomatch z), fun n => absurd y n⟩
  | isFalse y => exact ⟨fun _ => y, fun _ => rfl⟩
theorem pu_x (h : False) : Pu T σ H True := h.elim
theorem pu_d {i : Decidable p} (h : ∀ B : Bool → Hp → Prop, B (@decide p i) H → T σ H B) : Pu T σ H p := ⟨@decide p i, ⟨of_decide_eq_true, decide_eq_true⟩, h⟩
theorem pu_n {i : Decidable p} (h : ∀ B : Bool → Hp → Prop, B (!(@decide p i)) H → T σ H B) : Pu T σ H (¬ p) := ⟨!(@decide p i), dec_n, h⟩
theorem pu_b {b : Bool} (h : ∀ B : Bool → Hp → Prop, B b H → T σ H B) : Pu T σ H (b = true) := ⟨b, Iff.rfl, h⟩
theorem pu_nb {b : Bool} (h : ∀ B : Bool → Hp → Prop, B (!b) H → T σ H B) : Pu T σ H (b = false) := ⟨!b, by cases b <;> decide, h⟩
theorem r_ifP (hT : Pu T σ H p) (h1 : p → t D σ H) (h2 : ¬ p → u D σ H) : tIfS T t u D σ H := by
  obtain ⟨b, e, h⟩ := hT
  cases b with
  | true => exact h _ (ite_t (h1 (e.mp rfl)))
  | false => exact h _ (ite_f (h2 fun z => nomatch e.mpr z))
theorem r_tifP (hT : Pu T σ H p) (h1 : p → ta σ H Q) (h2 : ¬ p → tb σ H Q) : tIf T ta tb σ H Q := by
  obtain ⟨b, e, h⟩ := hT
  cases b with
  | true => exact h _ (ite_t (h1 (e.mp rfl)))
  | false => exact h _ (ite_f (h2 fun z => nomatch e.mpr z))
theorem r_ifPy (hT : Pu T σ H p) (hp : p) (h1 : t D σ H) : tIfS T t u D σ H := r_ifP hT (fun _ => h1) fun n => absurd hp n
theorem r_ifPn (hT : Pu T σ H p) (hp : ¬ p) (h1 : u D σ H) : tIfS T t u D σ H := r_ifP hT (fun n => absurd n hp) fun _ => h1
theorem r_tifPy (hT : Pu T σ H p) (hp : p) (h1 : ta σ H Q) : tIf T ta tb σ H Q := r_tifP hT (fun _ => h1) fun n => absurd hp n
theorem r_tifPn (hT : Pu T σ H p) (hp : ¬ p) (h1 : tb σ H Q) : tIf T ta tb σ H Q := r_tifP hT (fun n => absurd n hp) fun _ => h1
end
end Vs

open PySem PySem.Spec PyProof.Rows L2 Vs
namespace Vs
theorem Same.at {H H' : Hp} {b : Addr} {o : HO} (k : Same H H') (h : H b = some o) : H' b = some o := k b o h
/-- a written place of a written list -/
theorem ix_some {xs : List V} {i : Int} {n : Nat} {v : V} (e : i = (n : Int)) (h : xs[n]? = some v) : atI xs i = some v := by rw [e]; exact atI_nat h
theorem r_ixA {K : PySem.W.Frag} {H : Hp} {Q : VK} {i : Int} {p : Addr} {xs : List V} (P : V → Prop) (h : SqL K H p xs) (h0 : 0 ≤ i) (h1 : i < (xs.length : Int)) (hP : ∀ v ∈ xs, P v) (q : ∀ v, P v → Q v H) : rIx K (.ref p) (.int i) H Q := by
  have hl : i.toNat < xs.length := by omega
  have hg : xs[i.toNat]? = some xs[i.toNat] := List.getElem?_eq_getElem hl
  exact r_ixL h (ix_some (n := i.toNat) (by omega) hg) (q _ (hP _ (List.getElem_mem hl)))
theorem r_ixAT {K : PySem.W.Frag} {H : Hp} {Q : VK} {i : Int} {p : Addr} {xs : List V} (P : V → Prop) (h : SqT K H p xs) (h0 : 0 ≤ i) (h1 : i < (xs.length : Int)) (hP : ∀ v ∈ xs, P v) (q : ∀ v, P v → Q v H) : rIx K (.ref p) (.int i) H Q := by
  have hl : i.toNat < xs.length := by omega
  have hg : xs[i.toNat]? = some xs[i.toNat] := List.getElem?_eq_getElem hl
  exact r_ixT h (ix_some (n := i.toNat) (by omega) hg) (q _ (hP _ (List.getElem_mem hl)))
/-- an item of a list of ints, at a place that lies in it -/
theorem r_ixI {K : PySem.W.Frag} {H : Hp} {Q : VK} {i : Int} {p : Addr} {xs : List V} (h : SqL K H p xs) (h0 : 0 ≤ i) (h1 : i < (xs.length : Int)) (hP : ∀ v ∈ xs, ∃ z : Int, v = .int z) (q : ∀ z, Q (.int z) H) : rIx K (.ref p) (.int i) H Q :=
  r_ixA _ h h0 h1 hP fun v ⟨z, e⟩ => e ▸ q z
theorem r_ixIT {K : PySem.W.Frag} {H : Hp} {Q : VK} {i : Int} {p : Addr} {xs : List V} (h : SqT K H p xs) (h0 : 0 ≤ i) (h1 : i < (xs.length : Int)) (hP : ∀ v ∈ xs, ∃ z : Int, v = .int z) (q : ∀ z, Q (.int z) H) : rIx K (.ref p) (.int i) H Q :=
  r_ixAT _ h h0 h1 hP fun v ⟨z, e⟩ => e ▸ q z
end Vs
/-- two addresses apart -/
local macro_rules | `(tactic| k_clsL) => `(tactic| first
  | assumption
  | exact Ne.symm (by assumption)
  | (refine' ne_of_none ?h1 ?h2; (case h2 => assumption); (case h1 => kcj_m))
  | (refine' Ne.symm (ne_of_none ?h1 ?h2); (case h2 => assumption); (case h1 => kcj_m))
  | (refine' ne_of ?h1 ?h2 ?d; (case h1 => assumption); (case h2 => kcj_m); (case d => intro z; cases z)))
/-- what stands at an address -/
local macro_rules | `(tactic| kcj_m) => `(tactic| first
  | assumption
  | exact upd_same
  | (refine' Eq.trans (upd_ne ?ne) ?hq; (case ne => k_clsL); (case hq => kcj_m))
  | (refine' Kp.at ?k ?hq ?ne; (case k => assumption); (case hq => kcj_m); (case ne => k_clsL))
  | (refine' Same.at ?k ?hq; (case k => assumption); (case hq => kcj_m)))
local macro_rules | `(tactic| k_places) => `(tactic| first
  | assumption
  | (refine' Same.seq ?k ?h; (case h => assumption); (case k => k_subL))
  | (refine' Kp.seqn ?k ?hl ?h; (case h => assumption); (case hl => assumption); (case k => k_subL))
  | (refine' SqL.of ?hq; (case hq => kcj_m))
  | (refine' SqT.of ?hq; (case hq => kcj_m)))
local macro_rules | `(tactic| k_offL) => `(tactic| first
  | assumption
  | (show CMul _ _; unfold CMul; omega)
  | exact ⟨by omega, by omega⟩
  | (show (0 : Int) < _; omega)
  | (show (0 : Int) ≤ _; omega)
  | exact ⟨by omega, by omega, by decide⟩
  | exact wide_div (by omega) (b := 64) (by omega) (by decide) (by decide)
  | exact ⟨by decide, by decide, by decide⟩
  | omega)
/-- a value's type -/
local macro_rules | `(tactic| k_intsEnd) => `(tactic| first
  | assumption
  | exact .base (.int _)
  | exact .base (.bl _)
  | exact .base .non
  | exact .base (.str _)
  | (refine' .base (.tup ?hq); (case hq => kcj_m))
  | (refine' .base (.lst ?hq); (case hq => kcj_m)))
/-- one step -/
local macro_rules | `(tactic| k_memK) => `(tactic| first
  | ((with_reducible refine' r_var ?h ?_); (case h => exact rfl))
  | (with_reducible refine r_c ?_)
  | (with_reducible refine r_op ?_)
  | (with_reducible refine r_un ?_)
  | (with_reducible refine r_seq ?_)
  | (with_reducible refine r_asg ?_)
  | (with_reducible refine r_gName ?_)
  | (with_reducible refine r_I0 ?_)
  | ((with_reducible refine' r_I ?c ?_); (case c => k_offL))
  | (with_reducible refine r_U ?_)
  | (with_reducible refine r_nil ?_)
  | (with_reducible refine r_cons ?_)
  | (with_reducible refine r_call0 ?_)
  | (with_reducible refine r_call ?_)
  | (with_reducible refine r_cb ?_)
  | (with_reducible refine r_test ?_)
  | (with_reducible refine r_tB ?_)
  | (with_reducible refine r_isbl ?_)
  | (with_reducible refine r_isint ?_)
  | (with_reducible refine r_and ?_)
  | (with_reducible refine r_or ?_)
  | (with_reducible refine r_not ?_)
  | (with_reducible refine r_andV ?_)
  | (with_reducible refine r_orV ?_)
  | (with_reducible refine r_notV ?_)
  | ((with_reducible refine' r_ifP ?T ?h1 ?h2); (case T => kct_strs); k_allIn)
  | ((with_reducible refine' r_tifP ?T ?h1 ?h2); (case T => kct_strs); k_allIn)
  | (with_reducible refine r_chain ?_)
  | (with_reducible refine r_eqI ?_)
  | (with_reducible refine r_neI ?_)
  | (with_reducible refine r_eqB ?_)
  | (with_reducible refine r_neB ?_)
  | (with_reducible refine r_eqS ?_)
  | (with_reducible refine r_neS ?_)
  | (with_reducible refine ite_t ?_)
  | (with_reducible refine ite_f ?_)
  | (with_reducible refine ite_nt ?_)
  | (with_reducible refine ite_nf ?_)
  | ((with_reducible refine ite_y ?hp ?_); (case hp => first | assumption | (with_reducible exact rfl) | omega))
  | ((with_reducible refine ite_n ?hp ?_); (case hp => first | assumption | (with_reducible exact rfl) | omega))
  | ((with_reducible refine ite_ny ?hp ?_); (case hp => first | assumption | (with_reducible exact rfl) | omega))
  | ((with_reducible refine ite_nn ?hp ?_); (case hp => first | assumption | (with_reducible exact rfl) | omega))
  | (with_reducible refine r_next ?_)
  | (with_reducible refine r_brk ?_)
  | (with_reducible refine r_cont ?_)
  | (with_reducible refine r_ret ?_)
  | (with_reducible refine r_retN ?_)
  | (with_reducible refine r_drop ?_)
  | (with_reducible refine r_tup ?_)
  | (with_reducible refine r_lst ?_)
  | ((with_reducible refine' r_size ?h ?_); (case h => (first | decide | (simp only [List.length]; omega))))
  | ((with_reducible refine' r_ixL ?h ?ha ?_); (case h => k_places); (case ha => exact rfl))
  | ((with_reducible refine' r_ixT ?h ?ha ?_); (case h => k_places); (case ha => exact rfl))
  | ((with_reducible refine' r_lenL ?h ?_); (case h => k_places))
  | ((with_reducible refine' r_lenT ?h ?_); (case h => k_places))
  | (with_reducible refine r_gSub ?_)
  | ((with_reducible refine' r_setL ?h ?e ?_); (case h => kcj_m); (case e => exact rfl))
  | (with_reducible refine r_int1i ?_)
  | (with_reducible refine r_int1b ?_)
  | (with_reducible refine r_sl ?_)
  | (with_reducible refine r_noPart ?_)
  | ((with_reducible refine' r_slL ?h ?_); (case h => k_places))
  | ((with_reducible refine' r_cat ?h ?h2 ?hl ?_); (case h => kcj_m); (case h2 => kcj_m); (case hl => first | exact cells_len (by assumption) | (simp only [List.length]; rw [sizeLine_eq]; omega)))
  | ((with_reducible refine' r_eqDe ?hx ?hy ?sd ?h ?_); (case hx => kbo_bools); (case hy => kbo_bools); (case sd => exact rfl); (case h => got_up))
  | ((with_reducible refine' r_neDe ?hx ?hy ?sd ?h ?_); (case hx => kbo_bools); (case hy => kbo_bools); (case sd => exact rfl); (case h => got_up))
  | (with_reducible refine r_part ?_)
  | (with_reducible refine r_min2 ?_)
  | (with_reducible refine r_max2 ?_)
  | ((with_reducible refine' r_divmod ?c ?_); (case c => k_offL))
  | ((with_reducible refine' r_isi (c := true) ?ty ?h ?_); (case ty => k_intsEnd); (case h => decide +kernel))
  | ((with_reducible refine' r_isi (c := false) ?ty ?h ?_); (case ty => k_intsEnd); (case h => decide +kernel))
  | kas_types
  | intro p hp
  | (with_reducible refine r_isN ?_)
  | (with_reducible refine r_for ?_)
  | (with_reducible refine r_iList ?_)
  | (with_reducible refine r_iTup ?_)
  | (with_reducible refine r_iRng1 ?_)
  | (with_reducible refine r_iRng2 ?_)
  | (with_reducible refine r_iRng3 ?_)
  | (with_reducible refine r_lc ?_)
  | (with_reducible refine r_isB ?_)
  | (with_reducible refine r_notB ?_)
  | ((with_reducible refine' r_rep ?h ?h0 ?h1 ?hl ?_); (case h => kcj_m); (case h0 => omega); (case h1 => omega); (case hl => (simp only [List.length]; rw [sizeLine_eq]; omega)))
  | ((with_reducible refine' r_gTup ?h ?e ?_); (case h => k_places); (case e => exact rfl))
  | (with_reducible refine r_gCons ?_)
  | (with_reducible refine r_gNil ?_)
  | ((with_reducible refine' r_all ?h ?_); (case h => k_places))
  | (with_reducible refine r_bm ?_)
  | (with_reducible refine r_bm0 ?_)
  | ((with_reducible refine' r_tyl ?h ?_); (case h => kcj_m)))
local macro_rules | `(tactic| k_ownIn) => `(tactic| repeat (k_memK))

local macro_rules | `(tactic| kcj_in) => `(tactic| first | assumption | omega | (simp; done) | (simp; omega))
/-- a test's proposition -/
local macro_rules | `(tactic| kct_strs) => `(tactic| first
  | ((with_reducible refine' pu_and ?a ?b); (case a => kct_strs); (case b => (intro hp; kct_strs)))
  | ((with_reducible refine' pu_or ?a ?b); (case a => kct_strs); (case b => (intro hp; kct_strs)))
  | ((with_reducible refine' pu_not ?a); (case a => kct_strs))
  | (refine' pu_d ?a; (case a => (intro B hB; k_ownIn; exact hB)))
  | (refine' pu_n ?a; (case a => (intro B hB; k_ownIn; exact hB)))
  | (refine' pu_nb ?a; (case a => (intro B hB; k_ownIn; exact hB)))
  | (refine' pu_b ?a; (case a => (intro B hB; k_ownIn; exact hB)))
  | (refine pu_x ?_; omega))
/-- an if, its two ways left -/
local macro_rules | `(tactic| keq_rows) => `(tactic| first
  | ((with_reducible refine' r_ifP ?T ?_ ?_); (case T => kct_strs))
  | ((with_reducible refine' r_tifP ?T ?_ ?_); (case T => kct_strs)))

/-- all but l stands; all stands -/
local macro_rules | `(tactic| k_subL) => `(tactic| first
  | assumption
  | exact Kp.refl _ _
  | exact Same.refl _
  | (with_reducible refine Kp.upd ?_; k_subL)
  | (with_reducible refine' Kp.new ?a ?hp; (case a => k_subL); (case hp => assumption))
  | (with_reducible refine' Same.new ?a ?hp; (case a => k_subL); (case hp => assumption))
  | (refine' Kp.trans ?a ?b; (case b => assumption); (case a => k_subL))
  | (refine' Kp.same ?a ?b; (case b => assumption); (case a => k_subL))
  | (refine' Same.trans ?a ?b; (case b => assumption); (case a => k_subL))
  | (refine Same.kp ?_; k_subL))

/-- two ways, one of which can't be -/
local macro_rules | `(tactic| k_allIn) => `(tactic| first
  | (rotate_left; (focus (intro hn; exact absurd (by kcj_in) hn)); intro hp)
  | ((focus (intro hn; exact absurd hn (by kcj_in))); intro hp))

/-- data as they stand -/
local macro_rules | `(tactic| kbo_bools) => `(tactic| first
  | exact Dp.int _
  | exact Dp.str _
  | exact Dp.bl _
  | exact Dp.non
  | (refine' Dp.tup ?h ?a; (case h => k_places); (case a => keq_hits))
  | (refine' Dp.lst ?h ?a; (case h => k_places); (case a => keq_hits)))
local macro_rules | `(tactic| keq_hits) => `(tactic| first
  | exact DpAll.nil
  | (refine' DpAll.cons ?x ?y; (case x => kbo_bools); (case y => keq_hits)))
local macro_rules | `(tactic| got_up) => `(tactic| first
  | exact rfl
  | (simp only [PyData.tuple.injEq, PyData.list.injEq, List.cons.injEq, PyData.int.injEq, and_true, true_and]; omega))

/-- an if whose test lays objects -/
local macro_rules | `(tactic| kpt_turns) => `(tactic| (with_reducible first | refine r_ifS ?_ | refine r_if ?_))

/-- an item of written ints at a drawn place -/
local macro_rules | `(tactic| ksw_less) => `(tactic| first
  | ((with_reducible refine' r_ixI ?h ?h0 ?h1 ?hP (fun z => ?_)); (case h => k_places); (case h0 => omega); (case h1 => (simp only [List.length]; omega)); (case hP => simp))
  | ((with_reducible refine' r_ixIT ?h ?h0 ?h1 ?hP (fun z => ?_)); (case h => k_places); (case h0 => omega); (case h1 => (simp only [List.length]; omega)); (case hP => simp)))

namespace Pr
open PySem PySem.Spec PyProof.Rows L2 Vs
/-! ### the law's draws, as plain functions -/
def mix (c k : Int) : Int :=
  (((c + 7919 * k + 1) * 48271 % 2147483647) * (((c + 7919 * k + 1) * 48271 % 2147483647) / 1009 + 69621) % 2147483647) *
    ((((c + 7919 * k + 1) * 48271 % 2147483647) * (((c + 7919 * k + 1) * 48271 % 2147483647) / 1009 + 69621) % 2147483647) / 2003 + 40692 + k) % 2147483399
structure Wl where
  a : Int
  b : Int
  c : Int
  d : Int
abbrev Wl.o (w : Wl) : HO := .lst [.int w.a, .int w.b, .int w.c, .int w.d]
def drF (c d : Int) : Nat → Int
  | 0 => 0
  | n + 1 => drF c d n * 2147483399 + mix c (d + ((n + 1 : Nat) : Int))
def dv (w : Wl) (m : Int) : Int := if w.b = 0 ∧ 0 < w.a then w.a % m else drF w.c w.d (if 1000000 < m then 3 else 1) % m
def dn (w : Wl) (m : Int) : Wl := if w.b = 0 ∧ 0 < w.a then ⟨w.a / m, w.b, w.c, w.d⟩ else ⟨w.a, w.b, w.c, w.d + ((if 1000000 < m then 3 else 1 : Nat) : Int)⟩
theorem dv_lo (w : Wl) {m : Int} (h : 0 < m) : 0 ≤ dv w m := by
  unfold dv
  split
  · exact Int.emod_nonneg _ (by omega)
  · exact Int.emod_nonneg _ (by omega)
theorem dv_hi (w : Wl) {m : Int} (h : 0 < m) : dv w m < m := by
  unfold dv
  split
  · exact Int.emod_lt_of_pos _ h
  · exact Int.emod_lt_of_pos _ h
/-- what is drawn: a number from 0 on below m -/
def cellAt (ns : List Int) (k : Nat) : Int := ns.getD k 0
end Pr

namespace Pr
open PySem PySem.Spec PyProof.Rows L2 Vs
/-! ### quiet minutes counted -/
def qI (s e n : Int) : Int := if (n - s) % 1440 < (e - s) % 1440 then 1 else 0
def mI (s : Int) (k : Nat) (n : Nat) : Int := if ((n : Int) - s) % 1440 < (k : Int) then 1 else 0
def marksN (s : Int) (k : Nat) : List Int := (List.range 1440).map (mI s k)
abbrev marksI (s : Int) (k : Nat) : List V := (marksN s k).map V.int
theorem marksI_len (s : Int) (k : Nat) : (marksI s k).length = 1440 := by unfold marksI marksN; rw [List.length_map, List.length_map, List.length_range]
theorem marksI_at (s : Int) (k : Nat) {n : Nat} (h : n < 1440) : (marksI s k)[n]? = some (V.int (mI s k n)) := by
  unfold marksI marksN
  rw [List.getElem?_map, List.getElem?_map, List.getElem?_range h]; rfl
theorem mI_q {s e : Int} (n : Nat) : mI s ((e - s) % 1440).toNat n = qI s e n := by
  unfold mI qI
  have h : ((((e - s) % 1440).toNat : Nat) : Int) = (e - s) % 1440 := Int.toNat_of_nonneg (Int.emod_nonneg _ (by decide))
  rw [h]
theorem marksI_zero (s : Int) : marksI s 0 = (List.replicate 1440 [V.int 0]).flatten := by
  have e : (List.replicate 1440 [V.int 0]).flatten = List.replicate 1440 (V.int 0) := by
    rw [← List.flatMap_id, List.flatMap_replicate]; simp
  apply List.ext_getElem?
  intro n
  by_cases hn : n < 1440
  · rw [marksI_at s 0 hn, e, List.getElem?_replicate, if_pos hn]
    have h1 : ¬ (((n : Int) - s) % 1440 < ((0 : Nat) : Int)) := by have := Int.emod_nonneg ((n : Int) - s) (by decide : (1440 : Int) ≠ 0); omega
    unfold mI
    rw [if_neg h1]
  · rw [List.getElem?_eq_none (by rw [marksI_len]; omega), e, List.getElem?_eq_none (by rw [List.length_replicate]; omega)]
theorem marksI_set (s : Int) {k : Nat} (hk : k < 1440) : (marksI s k).set ((s + (k : Int)) % 1440).toNat (V.int 1) = marksI s (k + 1) := by
  apply List.ext_getElem?
  intro n
  by_cases hn : n < 1440
  · rw [List.getElem?_set, marksI_at s (k + 1) hn, marksI_at s k hn, marksI_len]
    have h0 : 0 ≤ (s + (k : Int)) % 1440 := Int.emod_nonneg _ (by decide)
    have h1 : (s + (k : Int)) % 1440 < 1440 := Int.emod_lt_of_pos _ (by decide)
    unfold mI
    by_cases he : ((s + (k : Int)) % 1440).toNat = n
    · rw [if_pos he, if_pos (by omega)]
      have h2 : (((n : Int) - s) % 1440 < ((k + 1 : Nat) : Int)) := by omega
      rw [if_pos h2]
    · rw [if_neg he]
      by_cases h2 : (((n : Int) - s) % 1440 < (k : Int))
      · rw [if_pos h2, if_pos (by omega)]
      · rw [if_neg h2, if_neg (by omega)]
  · rw [List.getElem?_eq_none (by rw [List.length_set, marksI_len]; omega), List.getElem?_eq_none (by rw [marksI_len]; omega)]
/-- a day's quiet minutes below one -/
def qPart (s e n : Int) : Int := if s < e then (if (if n - s < 0 then 0 else n - s) < e - s then (if n - s < 0 then 0 else n - s) else e - s) else (if n < e then n else e) + (if n - s < 0 then 0 else n - s)
/-- quiet minutes from the clock's day 0 on -/
def qF (s e t : Int) : Int := t / 1440 * ((e - s) % 1440) + qPart s e (t % 1440)
structure QOk (s e : Int) : Prop where
  s0 : 0 ≤ s
  s1 : s ≤ 1439
  e0 : 0 ≤ e
  e1 : e ≤ 1439
  ne : s ≠ e
theorem qF_step {s e : Int} (h : QOk s e) (t : Int) : qF s e (t + 1) = qF s e t + qI s e (t % 1440) := by
  obtain ⟨s0, s1, e0, e1, ne⟩ := h
  unfold qF qI
  by_cases hm : t % 1440 = 1439
  · have a : (t + 1) / 1440 = t / 1440 + 1 := by omega
    have b : (t + 1) % 1440 = 0 := by omega
    rw [a, b, hm, Int.add_mul, Int.one_mul]
    generalize t / 1440 * ((e - s) % 1440) = x
    unfold qPart
    split <;> split <;> (repeat' split) <;> omega
  · have a : (t + 1) / 1440 = t / 1440 := by omega
    have b : (t + 1) % 1440 = t % 1440 + 1 := by omega
    rw [a, b]
    generalize t / 1440 * ((e - s) % 1440) = x
    have c0 : 0 ≤ t % 1440 := by omega
    have c1 : t % 1440 < 1439 := by omega
    generalize t % 1440 = n at *
    unfold qPart
    split <;> split <;> (repeat' split) <;> omega
theorem qF_days (s e t d : Int) : qF s e (t + 1440 * d) = qF s e t + d * ((e - s) % 1440) := by
  unfold qF
  have a : (t + 1440 * d) / 1440 = t / 1440 + d := by omega
  have b : (t + 1440 * d) % 1440 = t % 1440 := by omega
  rw [a, b, Int.add_mul]
  omega
theorem marks_sum {s e : Int} (h : QOk s e) : (marksN s ((e - s) % 1440).toNat).sum = (e - s) % 1440 := by
  have g : ∀ m : Nat, m ≤ 1440 → ((List.range m).map (mI s ((e - s) % 1440).toNat)).sum = qF s e m - qF s e 0 := by
    intro m
    induction m with
    | zero => intro _; simp
    | succ k ih =>
      intro hk
      rw [List.range_succ, List.map_append, List.sum_append, ih (by omega)]
      simp only [List.map_cons, List.map_nil, List.sum_cons, List.sum_nil]
      rw [mI_q]
      have e1 := qF_step h (k : Int)
      have e2 : (k : Int) % 1440 = k := by omega
      rw [e2] at e1
      have e3 : ((k + 1 : Nat) : Int) = (k : Int) + 1 := by omega
      rw [e3, e1]
      omega
  unfold marksN
  rw [g 1440 (Nat.le_refl _)]
  have e1 := qF_days s e 0 1
  have e2 : (0 : Int) + 1440 * 1 = ((1440 : Nat) : Int) := by decide
  rw [e2] at e1
  rw [e1]
  omega
end Pr

namespace Pr
open PySem PySem.Spec PyProof.Rows L2 He Vs
def top (i : Nat) : Stmt := PySem.Challenge.pw_bellsaway_k03_loud_moments_and_counts.main.body.getD i (.Pass ⟨0, 0, 0, 0⟩)
abbrev s_law_well : Stmt := top 18
def d_law_well : He.DefD := ⟨("_law_well", none), "_law_well", "_law_well", defArgs s_law_well, defBody s_law_well, defScope s_law_well, [], []⟩
abbrev s_law_mixed : Stmt := top 17
def d_law_mixed : He.DefD := ⟨("_law_mixed", none), "_law_mixed", "_law_mixed", defArgs s_law_mixed, defBody s_law_mixed, defScope s_law_mixed, [], []⟩
abbrev s_law_draw : Stmt := top 19
def d_law_draw : He.DefD := ⟨("_law_draw", none), "_law_draw", "_law_draw", defArgs s_law_draw, defBody s_law_draw, defScope s_law_draw, [], []⟩
abbrev s_law_quiet : Stmt := top 21
def d_law_quiet : He.DefD := ⟨("_law_quiet", none), "_law_quiet", "_law_quiet", defArgs s_law_quiet, defBody s_law_quiet, defScope s_law_quiet, [], []⟩
abbrev s_law_marks : Stmt := top 22
def d_law_marks : He.DefD := ⟨("_law_marks", none), "_law_marks", "_law_marks", defArgs s_law_marks, defBody s_law_marks, defScope s_law_marks, [], []⟩
abbrev s_law_cell_at : Stmt := top 16
def d_law_cell_at : He.DefD := ⟨("_law_cell_at", none), "_law_cell_at", "_law_cell_at", defArgs s_law_cell_at, defBody s_law_cell_at, defScope s_law_cell_at, [], []⟩
abbrev s_law_moment : Stmt := top 23
def d_law_moment : He.DefD := ⟨("_law_moment", none), "_law_moment", "_law_moment", defArgs s_law_moment, defBody s_law_moment, defScope s_law_moment, [], []⟩
abbrev s_is_whole : Stmt := top 4
def d_is_whole : He.DefD := ⟨("is_whole", none), "is_whole", "is_whole", defArgs s_is_whole, defBody s_is_whole, defScope s_is_whole, [], []⟩
abbrev s_is_between : Stmt := top 5
def d_is_between : He.DefD := ⟨("is_between", none), "is_between", "is_between", defArgs s_is_between, defBody s_is_between, defScope s_is_between, [], []⟩
abbrev s_sure_quiet : Stmt := top 9
def d_sure_quiet : He.DefD := ⟨("sure_quiet", none), "sure_quiet", "sure_quiet", defArgs s_sure_quiet, defBody s_sure_quiet, defScope s_sure_quiet, [], []⟩
abbrev s_sure_zone : Stmt := top 8
def d_sure_zone : He.DefD := ⟨("sure_zone", none), "sure_zone", "sure_zone", defArgs s_sure_zone, defBody s_sure_zone, defScope s_sure_zone, [], []⟩
abbrev s_shown : Stmt := top 10
def d_shown : He.DefD := ⟨("shown", none), "shown", "shown", defArgs s_shown, defBody s_shown, defScope s_shown, [], []⟩
abbrev s_is_quiet : Stmt := top 11
def d_is_quiet : He.DefD := ⟨("is_quiet", none), "is_quiet", "is_quiet", defArgs s_is_quiet, defBody s_is_quiet, defScope s_is_quiet, [], []⟩
abbrev s_loud_from : Stmt := top 12
def d_loud_from : He.DefD := ⟨("loud_from", none), "loud_from", "loud_from", defArgs s_loud_from, defBody s_loud_from, defScope s_loud_from, [], []⟩
abbrev s_law_other : Stmt := top 24
def d_law_other : He.DefD := ⟨("_law_other", none), "_law_other", "_law_other", defArgs s_law_other, defBody s_law_other, defScope s_law_other, [], []⟩
abbrev s_quiet_ahead : Stmt := top 13
def d_quiet_ahead : He.DefD := ⟨("quiet_ahead", none), "quiet_ahead", "quiet_ahead", defArgs s_quiet_ahead, defBody s_quiet_ahead, defScope s_quiet_ahead, [], []⟩
abbrev s_quiet_count : Stmt := top 14
def d_quiet_count : He.DefD := ⟨("quiet_count", none), "quiet_count", "quiet_count", defArgs s_quiet_count, defBody s_quiet_count, defScope s_quiet_count, [], []⟩
abbrev s_law_whole : Stmt := top 20
def d_law_whole : He.DefD := ⟨("_law_whole", none), "_law_whole", "_law_whole", defArgs s_law_whole, defBody s_law_whole, defScope s_law_whole, [], []⟩
abbrev s_law_loud : Stmt := top 26
def d_law_loud : He.DefD := ⟨("_law_loud", none), "_law_loud", "_law_loud", defArgs s_law_loud, defBody s_law_loud, defScope s_law_loud, [], []⟩
abbrev s_law_counted : Stmt := top 25
def d_law_counted : He.DefD := ⟨("_law_counted", none), "_law_counted", "_law_counted", defArgs s_law_counted, defBody s_law_counted, defScope s_law_counted, [], []⟩
abbrev s_law : Stmt := top 27
def d_law : He.DefD := ⟨("law", none), "law", "law", defArgs s_law, defBody s_law, defScope s_law, [], []⟩
def fn : List He.DefD := [d_law_well, d_law_mixed, d_law_draw, d_law_quiet, d_law_marks, d_law_cell_at, d_law_moment, d_is_whole, d_is_between, d_sure_quiet, d_sure_zone, d_shown, d_is_quiet, d_loud_from, d_law_other, d_quiet_ahead, d_quiet_count, d_law_whole, d_law_loud, d_law_counted, d_law]
def fa : List He.Fa := [.glo "_law_mixed", .free "int", .free "range", .glo "_law_draw", .free "len", .free "bool", .free "isinstance", .glo "is_whole", .glo "is_between", .free "all", .free "tuple", .int "DAY" 1440, .glo "sure_zone", .free "divmod", .glo "shown", .glo "sure_quiet", .glo "is_quiet", .glo "_law_moment", .free "max", .free "min", .glo "quiet_ahead", .free "sum", .glo "_law_cell_at", .glo "_law_counted", .glo "_law_loud", .glo "_law_marks", .glo "_law_other", .glo "_law_quiet", .glo "_law_well", .glo "_law_whole", .glo "loud_from", .glo "quiet_count", .glo "law"]
structure Env (K : PySem.W.Frag) (mg : Str → Option Value) : Prop where
  c : SaysD fa fn K
  g : ∃ h : Heap, K.In h ∧ h.Ns mainGlobals mg
theorem Env.glo {K : PySem.W.Frag} {mg : Str → Option Value} (Z : Env K mg) (i : Nat) {x : Str} (h : fa[i]? = some (.glo x)) : mg x = some (.ref (ga K x)) := let ⟨_, X, G⟩ := Z.g; glo_ok X G (Z.c.fact i h)
theorem Env.free {K : PySem.W.Frag} {mg : Str → Option Value} (Z : Env K mg) (i : Nat) {x : Str} (h : fa[i]? = some (.free x)) : mg x = none := let ⟨_, X, G⟩ := Z.g; free_ok X G (Z.c.fact i h)
theorem Env.int {K : PySem.W.Frag} {mg : Str → Option Value} (Z : Env K mg) (j : Nat) {x : Str} {i : Int} (h : fa[j]? = some (.int x i)) : ∃ t, mg x = some (.int i t) := let ⟨_, X, G⟩ := Z.g; int_ok X G (Z.c.fact j h)
theorem Env.str {K : PySem.W.Frag} {mg : Str → Option Value} (Z : Env K mg) (j : Nat) {x z : Str} (h : fa[j]? = some (.str x z)) : ∃ t, mg x = some (.str z t) := let ⟨_, X, G⟩ := Z.g; str_ok X G (Z.c.fact j h)

/-! ### _law_well -/
def sp_law_well (K : PySem.W.Frag) : Sp := fun vs H Q _ => ∃ (c : Int), vs = [.int c] ∧ ∀ p, H p = none → Q (.ref p) (upd H p (Wl.o ⟨c / 2, c % 2, c % 2147483647, 0⟩))
theorem sp_well_use {K : PySem.W.Frag} {H : Hp} {Q : VK} {E : XK} {c : Int} (q : ∀ p, H p = none → ∀ w : Wl, Q (.ref p) (upd H p w.o)) : sp_law_well K [.int c] H Q E := ⟨_, rfl, fun p hp => q p hp _⟩
local macro_rules | `(tactic| kas_types) => `(tactic| (with_reducible refine sp_well_use (fun p hp w => ?_)))
def t_law_well (K : PySem.W.Frag) : TS :=
  (tRet (tLst (tCons (tOp (rI CDiv fun i j => .int (i / j)) (tVar 0) (tC (.int 2))) (tCons (tOp (rI (fun _ j => 0 < j) fun i j => .int (i % j)) (tVar 0) (tC (.int 2))) (tCons (tOp (rI (fun _ j => 0 < j) fun i j => .int (i % j)) (tVar 0) (tC (.int 2147483647))) (tCons (tC (.int 0)) tNil))))))
theorem run_law_well {K : PySem.W.Frag} {vs : List V} {H : Hp} {Q : VK} {E : XK} (h : sp_law_well K vs H Q E) : t_law_well K (Ends.mk (fun _ H' => Q .non H') Q (fun _ _ => False) (fun _ _ => False)) (start ["_law_cell"] vs) H := by
  obtain ⟨c, rfl, q⟩ := h
  unfold t_law_well
  k_ownIn
  exact q _ (by assumption)
theorem len_law_well {K : PySem.W.Frag} {vs : List V} {H : Hp} {Q : VK} {E : XK} (h : sp_law_well K vs H Q E) : vs.length = 1 := by
  first | (obtain ⟨rfl, _⟩ := h; rfl) | (obtain ⟨_, rfl, _⟩ := h; rfl) | (obtain ⟨_, _, rfl, _⟩ := h; rfl) | (obtain ⟨_, _, _, rfl, _⟩ := h; rfl) | (obtain ⟨_, _, _, _, rfl, _⟩ := h; rfl) | (obtain ⟨_, _, _, _, _, rfl, _⟩ := h; rfl) | (obtain ⟨_, _, _, _, _, _, rfl, _⟩ := h; rfl) | (obtain ⟨_, _, _, _, _, _, _, rfl, _⟩ := h; rfl) | (obtain ⟨_, _, _, _, _, _, _, _, rfl, _⟩ := h; rfl) | (obtain ⟨_, _, _, _, _, _, _, _, _, rfl, _⟩ := h; rfl) | (obtain ⟨_, _, _, _, _, _, _, _, _, _, rfl, _⟩ := h; rfl) | (obtain ⟨_, _, _, _, _, _, _, _, _, _, _, rfl, _⟩ := h; rfl) | (obtain ⟨_, _, _, _, _, _, _, _, _, _, _, _, rfl, _⟩ := h; rfl) | (obtain ⟨_, _, _, _, _, _, _, _, _, _, _, _, _, rfl, _⟩ := h; rfl)
/-! ### _law_mixed -/
def sp_law_mixed (K : PySem.W.Frag) : Sp := fun vs H Q _ => ∃ (c k : Int), vs = [.int c, .int k] ∧ Q (.int (mix c k)) H
theorem sp_mixed_use {K : PySem.W.Frag} {H : Hp} {Q : VK} {E : XK} {c k : Int} (q : Q (.int (mix c k)) H) : sp_law_mixed K [.int c, .int k] H Q E := ⟨_, _, rfl, q⟩
local macro_rules | `(tactic| kas_types) => `(tactic| (with_reducible refine sp_mixed_use ?_))
def t_law_mixed (K : PySem.W.Frag) : TS :=
  (tSeq (tAsg (tOp (rI (fun _ j => 0 < j) fun i j => .int (i % j)) (tOp (rI CMul fun i j => .int (i * j)) (tOp (rI0 fun i j => .int (i + j)) (tOp (rI0 fun i j => .int (i + j)) (tVar 0) (tOp (rI CMul fun i j => .int (i * j)) (tC (.int 7919)) (tVar 1))) (tC (.int 1))) (tC (.int 48271))) (tC (.int 2147483647))) (gName 2))
    (tSeq (tAsg (tOp (rI (fun _ j => 0 < j) fun i j => .int (i % j)) (tOp (rI CMul fun i j => .int (i * j)) (tVar 2) (tOp (rI0 fun i j => .int (i + j)) (tOp (rI CDiv fun i j => .int (i / j)) (tVar 2) (tC (.int 1009))) (tC (.int 69621)))) (tC (.int 2147483647))) (gName 2))
    (tRet (tOp (rI (fun _ j => 0 < j) fun i j => .int (i % j)) (tOp (rI CMul fun i j => .int (i * j)) (tVar 2) (tOp (rI0 fun i j => .int (i + j)) (tOp (rI0 fun i j => .int (i + j)) (tOp (rI CDiv fun i j => .int (i / j)) (tVar 2) (tC (.int 2003))) (tC (.int 40692))) (tVar 1))) (tC (.int 2147483399))))))
theorem run_law_mixed {K : PySem.W.Frag} {vs : List V} {H : Hp} {Q : VK} {E : XK} (h : sp_law_mixed K vs H Q E) : t_law_mixed K (Ends.mk (fun _ H' => Q .non H') Q (fun _ _ => False) (fun _ _ => False)) (start ["_law_cell", "_law_k", "_law_number"] vs) H := by
  obtain ⟨c, k, rfl, q⟩ := h
  unfold t_law_mixed
  k_ownIn
  exact q
theorem len_law_mixed {K : PySem.W.Frag} {vs : List V} {H : Hp} {Q : VK} {E : XK} (h : sp_law_mixed K vs H Q E) : vs.length = 2 := by
  first | (obtain ⟨rfl, _⟩ := h; rfl) | (obtain ⟨_, rfl, _⟩ := h; rfl) | (obtain ⟨_, _, rfl, _⟩ := h; rfl) | (obtain ⟨_, _, _, rfl, _⟩ := h; rfl) | (obtain ⟨_, _, _, _, rfl, _⟩ := h; rfl) | (obtain ⟨_, _, _, _, _, rfl, _⟩ := h; rfl) | (obtain ⟨_, _, _, _, _, _, rfl, _⟩ := h; rfl) | (obtain ⟨_, _, _, _, _, _, _, rfl, _⟩ := h; rfl) | (obtain ⟨_, _, _, _, _, _, _, _, rfl, _⟩ := h; rfl) | (obtain ⟨_, _, _, _, _, _, _, _, _, rfl, _⟩ := h; rfl) | (obtain ⟨_, _, _, _, _, _, _, _, _, _, rfl, _⟩ := h; rfl) | (obtain ⟨_, _, _, _, _, _, _, _, _, _, _, rfl, _⟩ := h; rfl) | (obtain ⟨_, _, _, _, _, _, _, _, _, _, _, _, rfl, _⟩ := h; rfl) | (obtain ⟨_, _, _, _, _, _, _, _, _, _, _, _, _, rfl, _⟩ := h; rfl)
/-! ### _law_draw -/
def sp_law_draw (K : PySem.W.Frag) : Sp := fun vs H Q _ => ∃ (l : Addr) (w : Wl) (m : Int), vs = [.ref l, .int m] ∧ H l = some w.o ∧ 0 < m ∧ m ≤ 1000000000000000000 ∧ Q (.int (dv w m)) (upd H l (dn w m).o)
theorem sp_draw_any {K : PySem.W.Frag} {H : Hp} {Q : VK} {E : XK} {l : Addr} {w : Wl} {m : Int} (h : H l = some w.o) (h0 : 0 < m) (h1 : m ≤ 1000000000000000000) (q : ∀ v w', 0 ≤ v → v < m → Q (.int v) (upd H l (Wl.o w'))) :
    sp_law_draw K [.ref l, .int m] H Q E := ⟨l, w, m, rfl, h, h0, h1, q _ _ (dv_lo w h0) (dv_hi w h0)⟩
/-- a draw, whatever comes -/
local macro_rules | `(tactic| kat_tups) => `(tactic| ((with_reducible refine' sp_draw_any ?h ?h0 ?h1 (fun v w' l0 l1 => ?_)); (case h => kcj_m); (case h0 => omega); (case h1 => omega)))
local macro_rules | `(tactic| kas_types) => `(tactic| kat_tups)
def t_law_draw (K : PySem.W.Frag) : TS :=
  (tSeq (tIfS (tAnd (tTest (tOp rEq (tOp (rIx K) (tVar 0) (tC (.int 1))) (tC (.int 0)))) (tTest (tOp (rI0 fun i j => .bl (decide (j < i))) (tOp (rIx K) (tVar 0) (tC (.int 0))) (tC (.int 0))))) (tSeq (tAsg (tOp (rI (fun _ j => 0 < j) fun i j => .int (i % j)) (tOp (rIx K) (tVar 0) (tC (.int 0))) (tVar 1)) (gName 2))
    (tSeq (tAsg (tOp (rI CDivW fun i j => .int (i / j)) (tOp (rIx K) (tVar 0) (tC (.int 0))) (tVar 1)) (gSub (tVar 0) (tC (.int 0)) rSetL))
    (tRet (tVar 2)))) tNext)
    (tSeq (tAsg (tC (.int 0)) (gName 2))
    (tSeq (tFor (iRng1 (tCons (tOp (rI0 fun i j => .int (i + j)) (tC (.int 1)) (tOp (rI CMul fun i j => .int (i * j)) (tC (.int 2)) (tCB rInt1 (tCons (tOp (rI0 fun i j => .bl (decide (j < i))) (tVar 1) (tC (.int 1000000))) tNil)))) tNil)) (gName 3)
    (tSeq (tAsg (tOp (rI0 fun i j => .int (i + j)) (tOp (rIx K) (tVar 0) (tC (.int 3))) (tC (.int 1))) (gSub (tVar 0) (tC (.int 3)) rSetL))
    (tAsg (tOp (rI0 fun i j => .int (i + j)) (tOp (rI CMul fun i j => .int (i * j)) (tVar 2) (tC (.int 2147483399))) (tCall (sp_law_mixed K) [] E0 (tCons (tOp (rIx K) (tVar 0) (tC (.int 2))) (tCons (tOp (rIx K) (tVar 0) (tC (.int 3))) tNil)))) (gName 2))))
    (tRet (tOp (rI (fun _ j => 0 < j) fun i j => .int (i % j)) (tVar 2) (tVar 1))))))
theorem run_law_draw {K : PySem.W.Frag} {vs : List V} {H : Hp} {Q : VK} {E : XK} (h : sp_law_draw K vs H Q E) : t_law_draw K (Ends.mk (fun _ H' => Q .non H') Q (fun _ _ => False) (fun _ _ => False)) (start ["_law_well_here", "_law_most", "_law_found", "_law_turn"] vs) H := by
  obtain ⟨l, w, m, rfl, hl, h0, h1, q⟩ := h
  unfold t_law_draw
  k_ownIn
  keq_rows
  · intro hc
    k_ownIn
    have e1 : dv w m = w.a % m := by unfold dv; rw [if_pos hc]
    have e2 : (dn w m).o = .lst [.int (w.a / m), .int w.b, .int w.c, .int w.d] := by unfold dn; rw [if_pos hc]
    rw [e1, e2] at q
    exact q
  · intro hc
    k_ownIn
    have en : (1 + 2 * if decide (1000000 < m) = true then (1 : Int) else 0).toNat = if 1000000 < m then 3 else 1 := by
      by_cases hm : 1000000 < m
      · rw [if_pos hm, if_pos (decide_eq_true hm)]; rfl
      · rw [if_neg hm, if_neg (fun z => hm (of_decide_eq_true z))]; rfl
    refine r_loopR1 (fun i σ' H' => ∃ tv : Option V, σ' = [some (.ref l), some (.int m), some (.int (drF w.c w.d i)), tv] ∧ H' = upd H l (.lst [.int w.a, .int w.b, .int w.c, .int (w.d + (i : Int))]))
      (by split <;> omega) ⟨none, rfl, ?_⟩ ?_ ?_
    · have e : w.d + ((0 : Nat) : Int) = w.d := by omega
      rw [e]
      exact (upd_id hl).symm
    · rintro i σ' H' N hi ⟨tv, rfl, rfl⟩ hN
      k_ownIn
      refine hN _ _ ?_
      have e : w.d + (i : Int) + 1 = w.d + ((i + 1 : Nat) : Int) := by omega
      rw [upd2, e]
      exact ⟨_, rfl, rfl⟩
    · rintro σ' H' ⟨tv, rfl, rfl⟩
      k_ownIn
      have e1 : dv w m = drF w.c w.d (if 1000000 < m then 3 else 1) % m := by unfold dv; rw [if_neg hc]
      have e2 : (dn w m).o = .lst [.int w.a, .int w.b, .int w.c, .int (w.d + ((if 1000000 < m then 3 else 1 : Nat) : Int))] := by unfold dn; rw [if_neg hc]
      rw [e1, e2] at q
      rw [en]
      exact q
theorem len_law_draw {K : PySem.W.Frag} {vs : List V} {H : Hp} {Q : VK} {E : XK} (h : sp_law_draw K vs H Q E) : vs.length = 2 := by
  first | (obtain ⟨rfl, _⟩ := h; rfl) | (obtain ⟨_, rfl, _⟩ := h; rfl) | (obtain ⟨_, _, rfl, _⟩ := h; rfl) | (obtain ⟨_, _, _, rfl, _⟩ := h; rfl) | (obtain ⟨_, _, _, _, rfl, _⟩ := h; rfl) | (obtain ⟨_, _, _, _, _, rfl, _⟩ := h; rfl) | (obtain ⟨_, _, _, _, _, _, rfl, _⟩ := h; rfl) | (obtain ⟨_, _, _, _, _, _, _, rfl, _⟩ := h; rfl) | (obtain ⟨_, _, _, _, _, _, _, _, rfl, _⟩ := h; rfl) | (obtain ⟨_, _, _, _, _, _, _, _, _, rfl, _⟩ := h; rfl) | (obtain ⟨_, _, _, _, _, _, _, _, _, _, rfl, _⟩ := h; rfl) | (obtain ⟨_, _, _, _, _, _, _, _, _, _, _, rfl, _⟩ := h; rfl) | (obtain ⟨_, _, _, _, _, _, _, _, _, _, _, _, rfl, _⟩ := h; rfl) | (obtain ⟨_, _, _, _, _, _, _, _, _, _, _, _, _, rfl, _⟩ := h; rfl)
/-! ### _law_quiet -/
def sp_law_quiet (K : PySem.W.Frag) : Sp := fun vs H Q _ => ∃ (l : Addr) (w : Wl), vs = [.ref l] ∧ H l = some w.o ∧ ∀ (s e : Int) (w' : Wl) (t : Addr) (H' : Hp), 0 ≤ s → s ≤ 1439 → 0 ≤ e → e ≤ 1439 → s ≠ e → H' l = some w'.o → Kp l H H' → H' t = some (.tup [.int s, .int e]) → Q (.ref t) H'
theorem sp_quiet_use {K : PySem.W.Frag} {H : Hp} {Q : VK} {E : XK} {l : Addr} {w : Wl} (h : H l = some w.o) (q : ∀ (s e : Int) (w' : Wl) (t : Addr) (H' : Hp), 0 ≤ s → s ≤ 1439 → 0 ≤ e → e ≤ 1439 → s ≠ e → H' l = some w'.o → Kp l H H' → H' t = some (.tup [.int s, .int e]) → Q (.ref t) H') : sp_law_quiet K [.ref l] H Q E := ⟨_, _, rfl, h, q⟩
local macro_rules | `(tactic| kas_types) => `(tactic| ((with_reducible refine' sp_quiet_use ?h (fun s e w' t H' s0 s1 e0 e1 ne hl k ht => ?_)); (case h => kcj_m)))
def t_law_quiet (K : PySem.W.Frag) : TS :=
  (tSeq (tAsg (tOp (rIx K) (tLst (tCons (tC (.int 0)) (tCons (tC (.int 1439)) (tCons (tCall (sp_law_draw K) [] E0 (tCons (tVar 0) (tCons (tC (.int 1440)) tNil))) (tCons (tCall (sp_law_draw K) [] E0 (tCons (tVar 0) (tCons (tC (.int 1440)) tNil))) tNil))))) (tCall (sp_law_draw K) [] E0 (tCons (tVar 0) (tCons (tC (.int 4)) tNil)))) (gName 1))
    (tSeq (tAsg (tOp (rIx K) (tLst (tCons (tC (.int 1)) (tCons (tC (.int 1439)) (tCons (tOp (rI0 fun i j => .int (i + j)) (tC (.int 1)) (tCall (sp_law_draw K) [] E0 (tCons (tVar 0) (tCons (tC (.int 1439)) tNil)))) (tCons (tOp (rI0 fun i j => .int (i + j)) (tC (.int 1)) (tCall (sp_law_draw K) [] E0 (tCons (tVar 0) (tCons (tC (.int 1439)) tNil)))) tNil))))) (tCall (sp_law_draw K) [] E0 (tCons (tVar 0) (tCons (tC (.int 4)) tNil)))) (gName 2))
    (tRet (tTup (tCons (tVar 1) (tCons (tOp (rI (fun _ j => 0 < j) fun i j => .int (i % j)) (tOp (rI0 fun i j => .int (i + j)) (tVar 1) (tVar 2)) (tC (.int 1440))) tNil))))))
theorem run_law_quiet {K : PySem.W.Frag} {vs : List V} {H : Hp} {Q : VK} {E : XK} (h : sp_law_quiet K vs H Q E) : t_law_quiet K (Ends.mk (fun _ H' => Q .non H') Q (fun _ _ => False) (fun _ _ => False)) (start ["_law_well_here", "_law_start", "_law_far"] vs) H := by
  obtain ⟨l, w, rfl, hl, q⟩ := h
  unfold t_law_quiet
  k_ownIn
  refine r_ixA (fun x => ∃ z : Int, x = .int z ∧ 0 ≤ z ∧ z ≤ 1439) (by k_places) (by omega) (by simp only [List.length]; omega) ?_ ?_
  · intro x hx
    simp only [List.mem_cons, List.not_mem_nil, or_false] at hx
    rcases hx with rfl | rfl | rfl | rfl <;> exact ⟨_, rfl, by omega, by omega⟩
  · rintro x ⟨s, rfl, h0, h1⟩
    k_ownIn
    refine r_ixA (fun x => ∃ z : Int, x = .int z ∧ 1 ≤ z ∧ z ≤ 1439) (by k_places) (by omega) (by simp only [List.length]; omega) ?_ ?_
    · intro x hx
      simp only [List.mem_cons, List.not_mem_nil, or_false] at hx
      rcases hx with rfl | rfl | rfl | rfl <;> exact ⟨_, rfl, by omega, by omega⟩
    · rintro x ⟨f, rfl, f0, f1⟩
      k_ownIn
      exact q s ((s + f) % 1440) _ _ _ h0 h1 (by omega) (by omega) (by omega) (by kcj_m) (by k_subL) (by kcj_m)
theorem len_law_quiet {K : PySem.W.Frag} {vs : List V} {H : Hp} {Q : VK} {E : XK} (h : sp_law_quiet K vs H Q E) : vs.length = 1 := by
  first | (obtain ⟨rfl, _⟩ := h; rfl) | (obtain ⟨_, rfl, _⟩ := h; rfl) | (obtain ⟨_, _, rfl, _⟩ := h; rfl) | (obtain ⟨_, _, _, rfl, _⟩ := h; rfl) | (obtain ⟨_, _, _, _, rfl, _⟩ := h; rfl) | (obtain ⟨_, _, _, _, _, rfl, _⟩ := h; rfl) | (obtain ⟨_, _, _, _, _, _, rfl, _⟩ := h; rfl) | (obtain ⟨_, _, _, _, _, _, _, rfl, _⟩ := h; rfl) | (obtain ⟨_, _, _, _, _, _, _, _, rfl, _⟩ := h; rfl) | (obtain ⟨_, _, _, _, _, _, _, _, _, rfl, _⟩ := h; rfl) | (obtain ⟨_, _, _, _, _, _, _, _, _, _, rfl, _⟩ := h; rfl) | (obtain ⟨_, _, _, _, _, _, _, _, _, _, _, rfl, _⟩ := h; rfl) | (obtain ⟨_, _, _, _, _, _, _, _, _, _, _, _, rfl, _⟩ := h; rfl) | (obtain ⟨_, _, _, _, _, _, _, _, _, _, _, _, _, rfl, _⟩ := h; rfl)
/-! ### _law_marks -/
def sp_law_marks (K : PySem.W.Frag) : Sp := fun vs H Q _ => ∃ (t : Addr) (s e : Int), vs = [.ref t] ∧ H t = some (.tup [.int s, .int e]) ∧ 0 ≤ s ∧ s ≤ 1439 ∧ 0 ≤ e ∧ e ≤ 1439 ∧ s ≠ e ∧ ∀ (p : Addr) (H' : Hp), H p = none → Same H H' → H' p = some (.lst (marksI s ((e - s) % 1440).toNat)) → Q (.ref p) H'
theorem sp_marks_use {K : PySem.W.Frag} {H : Hp} {Q : VK} {E : XK} {t : Addr} {s e : Int} (ht : H t = some (.tup [.int s, .int e])) (s0 : 0 ≤ s) (s1 : s ≤ 1439) (e0 : 0 ≤ e) (e1 : e ≤ 1439) (ne : s ≠ e) (q : ∀ (p : Addr) (H' : Hp), H p = none → Same H H' → H' p = some (.lst (marksI s ((e - s) % 1440).toNat)) → Q (.ref p) H') : sp_law_marks K [.ref t] H Q E := ⟨_, _, _, rfl, ht, s0, s1, e0, e1, ne, q⟩
local macro_rules | `(tactic| kas_types) => `(tactic| ((with_reducible refine' sp_marks_use ?h ?s0 ?s1 ?e0 ?e1 ?ne (fun p H' hp s hq => ?_)); (case h => kcj_m); (case s0 => omega); (case s1 => omega); (case e0 => omega); (case e1 => omega); (case ne => assumption)))
def t_law_marks (K : PySem.W.Frag) : TS :=
  (tSeq (tAsg (tOp rRep (tLst (tCons (tC (.int 0)) tNil)) (tC (.int 1440))) (gName 1))
    (tSeq (tAsg (tOp (rIx K) (tVar 0) (tC (.int 0))) (gName 2))
    (tSeq (tWhile (tTest (tOp rNe (tVar 2) (tOp (rIx K) (tVar 0) (tC (.int 1)))))
    (tSeq (tAsg (tC (.int 1)) (gSub (tVar 1) (tVar 2) rSetL))
    (tAsg (tOp (rI (fun _ j => 0 < j) fun i j => .int (i % j)) (tOp (rI0 fun i j => .int (i + j)) (tVar 2) (tC (.int 1))) (tC (.int 1440))) (gName 2))))
    (tRet (tVar 1)))))
theorem run_law_marks {K : PySem.W.Frag} {vs : List V} {H : Hp} {Q : VK} {E : XK} (h : sp_law_marks K vs H Q E) : t_law_marks K (Ends.mk (fun _ H' => Q .non H') Q (fun _ _ => False) (fun _ _ => False)) (start ["_law_quiet_here", "_law_marks_here", "_law_at"] vs) H := by
  obtain ⟨t, s, e, rfl, ht, s0, s1, e0, e1, ne, q⟩ := h
  unfold t_law_marks
  k_ownIn
  rename_i p0 hp0 p hp
  have htp : t ≠ p := by k_clsL
  refine r_while (fun m σ' H' => ∃ k : Nat, m + k = ((e - s) % 1440).toNat ∧ σ' = [some (.ref t), some (.ref p), some (.int ((s + (k : Int)) % 1440))] ∧ H' = upd (upd H p0 (.lst [.int 0])) p (.lst (marksI s k))) ((e - s) % 1440).toNat ⟨0, by omega, ?_, ?_⟩ ?_
  · have e1 : (s + ((0 : Nat) : Int)) % 1440 = s := by omega
    rw [e1]; rfl
  · rw [marksI_zero]; rfl
  · rintro m σ' H' ⟨k, hm, rfl, rfl⟩
    k_ownIn
    refine whB (fun hb N hN => ?_) (fun hb => ?_)
    · have hne : ¬ (s + (k : Int)) % 1440 = e := by simpa using hb
      have hk : k < ((e - s) % 1440).toNat := by omega
      have hx : ixN (marksI s k).length ((s + (k : Int)) % 1440) = some ((s + (k : Int)) % 1440).toNat := by
        unfold ixN
        rw [marksI_len, if_pos (by omega), if_pos (by omega)]
      k_ownIn
      refine r_setL (by kcj_m) hx ?_
      k_ownIn
      rw [upd2, marksI_set s (by omega)]
      refine hN (m - 1) _ _ (by omega) ⟨k + 1, by omega, ?_, rfl⟩
      have e3 : ((s + (k : Int)) % 1440 + 1) % 1440 = (s + ((k + 1 : Nat) : Int)) % 1440 := by omega
      rw [e3]
      rfl
    · have he : (s + (k : Int)) % 1440 = e := by simpa using hb
      have hk : k = ((e - s) % 1440).toNat := by omega
      k_ownIn
      subst hk
      exact q p _ (by have := Same.free (Same.new (Same.refl H) hp0) hp; exact this) (by k_subL) upd_same
theorem len_law_marks {K : PySem.W.Frag} {vs : List V} {H : Hp} {Q : VK} {E : XK} (h : sp_law_marks K vs H Q E) : vs.length = 1 := by
  first | (obtain ⟨rfl, _⟩ := h; rfl) | (obtain ⟨_, rfl, _⟩ := h; rfl) | (obtain ⟨_, _, rfl, _⟩ := h; rfl) | (obtain ⟨_, _, _, rfl, _⟩ := h; rfl) | (obtain ⟨_, _, _, _, rfl, _⟩ := h; rfl) | (obtain ⟨_, _, _, _, _, rfl, _⟩ := h; rfl) | (obtain ⟨_, _, _, _, _, _, rfl, _⟩ := h; rfl) | (obtain ⟨_, _, _, _, _, _, _, rfl, _⟩ := h; rfl) | (obtain ⟨_, _, _, _, _, _, _, _, rfl, _⟩ := h; rfl) | (obtain ⟨_, _, _, _, _, _, _, _, _, rfl, _⟩ := h; rfl) | (obtain ⟨_, _, _, _, _, _, _, _, _, _, rfl, _⟩ := h; rfl) | (obtain ⟨_, _, _, _, _, _, _, _, _, _, _, rfl, _⟩ := h; rfl) | (obtain ⟨_, _, _, _, _, _, _, _, _, _, _, _, rfl, _⟩ := h; rfl) | (obtain ⟨_, _, _, _, _, _, _, _, _, _, _, _, _, rfl, _⟩ := h; rfl)
/-! ### _law_cell_at -/
def sp_law_cell_at (K : PySem.W.Frag) : Sp := fun vs H Q _ => ∃ (l : Addr) (ns : List Int) (j : Nat), vs = [.ref l, .int (j : Nat)] ∧ SqL K H l (ns.map V.int) ∧ Q (.int (cellAt ns j)) H
theorem sp_cell_use {K : PySem.W.Frag} {H : Hp} {Q : VK} {E : XK} {l : Addr} {ns : List Int} {i : Int} (hs : SqL K H l (ns.map V.int)) (h0 : 0 ≤ i) (q : Q (.int (cellAt ns i.toNat)) H) : sp_law_cell_at K [.ref l, .int i] H Q E :=
  ⟨l, ns, i.toNat, by rw [Int.toNat_of_nonneg h0], hs, q⟩
local macro_rules | `(tactic| kas_types) => `(tactic| ((with_reducible refine' sp_cell_use ?h ?h0 ?_); (case h => k_places); (case h0 => omega)))
def t_law_cell_at (K : PySem.W.Frag) : TS :=
  (tSeq (tIfS (tTest (tOp (rI0 fun i j => .bl (decide (i < j))) (tVar 1) (tCB (rLen K) (tCons (tVar 0) tNil)))) (tRet (tOp (rIx K) (tVar 0) (tVar 1))) tNext)
    (tRet (tC (.int 0))))
theorem run_law_cell_at {K : PySem.W.Frag} {vs : List V} {H : Hp} {Q : VK} {E : XK} (h : sp_law_cell_at K vs H Q E) : t_law_cell_at K (Ends.mk (fun _ H' => Q .non H') Q (fun _ _ => False) (fun _ _ => False)) (start ["_law_script", "_law_k"] vs) H := by
  obtain ⟨l, ns, j, rfl, hs, q⟩ := h
  unfold t_law_cell_at
  k_ownIn
  keq_rows
  · intro hj
    rw [List.length_map] at hj
    have hg : (ns.map V.int)[j]? = some (V.int (cellAt ns j)) := by
      have hj' : j < ns.length := by omega
      unfold cellAt
      rw [List.getElem?_map, List.getD_eq_getElem?_getD, List.getElem?_eq_getElem hj']
      rfl
    k_ownIn
    exact r_ixL hs (atI_nat hg) q
  · intro hj
    rw [List.length_map] at hj
    have e : cellAt ns j = 0 := by
      unfold cellAt
      rw [List.getD_eq_getElem?_getD, List.getElem?_eq_none (by omega)]
      rfl
    rw [e] at q
    k_ownIn
    exact q
theorem len_law_cell_at {K : PySem.W.Frag} {vs : List V} {H : Hp} {Q : VK} {E : XK} (h : sp_law_cell_at K vs H Q E) : vs.length = 2 := by
  first | (obtain ⟨rfl, _⟩ := h; rfl) | (obtain ⟨_, rfl, _⟩ := h; rfl) | (obtain ⟨_, _, rfl, _⟩ := h; rfl) | (obtain ⟨_, _, _, rfl, _⟩ := h; rfl) | (obtain ⟨_, _, _, _, rfl, _⟩ := h; rfl) | (obtain ⟨_, _, _, _, _, rfl, _⟩ := h; rfl) | (obtain ⟨_, _, _, _, _, _, rfl, _⟩ := h; rfl) | (obtain ⟨_, _, _, _, _, _, _, rfl, _⟩ := h; rfl) | (obtain ⟨_, _, _, _, _, _, _, _, rfl, _⟩ := h; rfl) | (obtain ⟨_, _, _, _, _, _, _, _, _, rfl, _⟩ := h; rfl) | (obtain ⟨_, _, _, _, _, _, _, _, _, _, rfl, _⟩ := h; rfl) | (obtain ⟨_, _, _, _, _, _, _, _, _, _, _, rfl, _⟩ := h; rfl) | (obtain ⟨_, _, _, _, _, _, _, _, _, _, _, _, rfl, _⟩ := h; rfl) | (obtain ⟨_, _, _, _, _, _, _, _, _, _, _, _, _, rfl, _⟩ := h; rfl)
/-! ### _law_moment -/
def sp_law_moment (K : PySem.W.Frag) : Sp := fun vs H Q _ => ∃ (l t : Addr) (w : Wl) (z s e : Int), vs = [.ref l, .int z, .ref t] ∧ H l = some w.o ∧ H t = some (.tup [.int s, .int e]) ∧ 0 ≤ s ∧ s ≤ 1439 ∧ 0 ≤ e ∧ e ≤ 1439 ∧ -1439 ≤ z ∧ z ≤ 1439 ∧ ∀ (m : Int) (w' : Wl) (H' : Hp), -11000000000000 ≤ m → m ≤ 11000000000000 → H' l = some w'.o → Kp l H H' → Q (.int m) H'
theorem sp_moment_use {K : PySem.W.Frag} {H : Hp} {Q : VK} {E : XK} {l t : Addr} {w : Wl} {z s e : Int} (h : H l = some w.o) (ht : H t = some (.tup [.int s, .int e])) (s0 : 0 ≤ s) (s1 : s ≤ 1439) (e0 : 0 ≤ e) (e1 : e ≤ 1439) (z0 : -1439 ≤ z) (z1 : z ≤ 1439) (q : ∀ (m : Int) (w' : Wl) (H' : Hp), -11000000000000 ≤ m → m ≤ 11000000000000 → H' l = some w'.o → Kp l H H' → Q (.int m) H') : sp_law_moment K [.ref l, .int z, .ref t] H Q E := ⟨_, _, _, _, _, _, rfl, h, ht, s0, s1, e0, e1, z0, z1, q⟩
local macro_rules | `(tactic| kas_types) => `(tactic| ((with_reducible refine' sp_moment_use ?h ?ht ?a ?b ?c ?d ?e ?f (fun m w' H' m0 m1 hl k => ?_)); (case h => kcj_m); (case ht => kcj_m); (case a => omega); (case b => omega); (case c => omega); (case d => omega); (case e => omega); (case f => omega)))
def t_law_moment (K : PySem.W.Frag) : TS :=
  (tSeq (tAsg (tCall (sp_law_draw K) [] E0 (tCons (tVar 0) (tCons (tC (.int 3)) tNil))) (gName 3))
    (tSeq (tIfS (tTest (tOp rEq (tVar 3) (tC (.int 2)))) (tRet (tOp (rI0 fun i j => .int (i + j)) (tOp (rI0 fun i j => .int (i - j)) (tCall (sp_law_draw K) [] E0 (tCons (tVar 0) (tCons (tOp (rI0 fun i j => .int (i - j)) (tOp (rI CMul fun i j => .int (i * j)) (tC (.int 2)) (tC (.int 10000000000000))) (tC (.int 20001))) tNil))) (tC (.int 10000000000000))) (tC (.int 10001)))) tNext)
    (tSeq (tAsg (tOp (rIx K) (tLst (tCons (tOp (rI0 fun i j => .int (i - j)) (tCall (sp_law_draw K) [] E0 (tCons (tVar 0) (tCons (tC (.int 7)) tNil))) (tC (.int 3))) (tCons (tOp (rI0 fun i j => .int (i - j)) (tCall (sp_law_draw K) [] E0 (tCons (tVar 0) (tCons (tC (.int 1000000000)) tNil))) (tOp (rI CMul fun i j => .int (i * j)) (tC (.int 5)) (tC (.int 100000000)))) tNil))) (tCall (sp_law_draw K) [] E0 (tCons (tVar 0) (tCons (tC (.int 2)) tNil)))) (gName 4))
    (tRet (tOp (rI0 fun i j => .int (i - j)) (tOp (rI0 fun i j => .int (i + j)) (tOp (rI0 fun i j => .int (i - j)) (tOp (rI0 fun i j => .int (i + j)) (tOp (rI CMul fun i j => .int (i * j)) (tVar 4) (tC (.int 1440))) (tOp (rIx K) (tVar 2) (tVar 3))) (tVar 1)) (tCall (sp_law_draw K) [] E0 (tCons (tVar 0) (tCons (tC (.int 5)) tNil)))) (tC (.int 2)))))))
theorem run_law_moment {K : PySem.W.Frag} {vs : List V} {H : Hp} {Q : VK} {E : XK} (h : sp_law_moment K vs H Q E) : t_law_moment K (Ends.mk (fun _ H' => Q .non H') Q (fun _ _ => False) (fun _ _ => False)) (start ["_law_well_here", "_law_zone", "_law_quiet_here", "_law_way", "_law_day"] vs) H := by
  obtain ⟨l, t, w, z, s, e, rfl, hl, ht, s0, s1, e0, e1, z0, z1, q⟩ := h
  unfold t_law_moment
  k_ownIn
  keq_rows
  · intro hc
    k_ownIn
    exact q _ _ _ (by omega) (by omega) (by kcj_m) (by k_subL)
  · intro hc
    k_ownIn
    refine r_ixA (fun x => ∃ z : Int, x = .int z ∧ -1000000000 ≤ z ∧ z ≤ 1000000000) (by k_places) (by omega) (by simp only [List.length]; omega) ?_ ?_
    · intro x hx
      simp only [List.mem_cons, List.not_mem_nil, or_false] at hx
      rcases hx with rfl | rfl <;> exact ⟨_, rfl, by omega, by omega⟩
    · rintro x ⟨d, rfl, d0, d1⟩
      k_ownIn
      refine r_ixAT (fun x => ∃ z : Int, x = .int z ∧ 0 ≤ z ∧ z ≤ 1439) (by k_places) (by omega) (by simp only [List.length]; omega) ?_ ?_
      · intro x hx
        simp only [List.mem_cons, List.not_mem_nil, or_false] at hx
        rcases hx with rfl | rfl
        · exact ⟨_, rfl, s0, s1⟩
        · exact ⟨_, rfl, e0, e1⟩
      · rintro x ⟨f, rfl, f0, f1⟩
        k_ownIn
        exact q _ _ _ (by omega) (by omega) (by kcj_m) (by k_subL)
theorem len_law_moment {K : PySem.W.Frag} {vs : List V} {H : Hp} {Q : VK} {E : XK} (h : sp_law_moment K vs H Q E) : vs.length = 3 := by
  first | (obtain ⟨rfl, _⟩ := h; rfl) | (obtain ⟨_, rfl, _⟩ := h; rfl) | (obtain ⟨_, _, rfl, _⟩ := h; rfl) | (obtain ⟨_, _, _, rfl, _⟩ := h; rfl) | (obtain ⟨_, _, _, _, rfl, _⟩ := h; rfl) | (obtain ⟨_, _, _, _, _, rfl, _⟩ := h; rfl) | (obtain ⟨_, _, _, _, _, _, rfl, _⟩ := h; rfl) | (obtain ⟨_, _, _, _, _, _, _, rfl, _⟩ := h; rfl) | (obtain ⟨_, _, _, _, _, _, _, _, rfl, _⟩ := h; rfl) | (obtain ⟨_, _, _, _, _, _, _, _, _, rfl, _⟩ := h; rfl) | (obtain ⟨_, _, _, _, _, _, _, _, _, _, rfl, _⟩ := h; rfl) | (obtain ⟨_, _, _, _, _, _, _, _, _, _, _, rfl, _⟩ := h; rfl) | (obtain ⟨_, _, _, _, _, _, _, _, _, _, _, _, rfl, _⟩ := h; rfl) | (obtain ⟨_, _, _, _, _, _, _, _, _, _, _, _, _, rfl, _⟩ := h; rfl)
/-! ### is_whole -/
def sp_is_whole (K : PySem.W.Frag) : Sp := fun vs H Q _ => ∃ (x : V) (t : String) (a b : Bool), vs = [x] ∧ TyX K H x (.type t) ∧ kitB t "int" = some a ∧ kitB t "bool" = some b ∧ Q (.bl (a && !b)) H
theorem sp_whole_int {K : PySem.W.Frag} {H : Hp} {Q : VK} {E : XK} {i : Int} (q : Q (.bl true) H) : sp_is_whole K [.int i] H Q E := ⟨_, "int", true, false, rfl, .base (.int i), by decide +kernel, by decide +kernel, q⟩
local macro_rules | `(tactic| kas_types) => `(tactic| (with_reducible refine sp_whole_int ?_))
def t_is_whole (K : PySem.W.Frag) : TS :=
  (tRet (tAndV (tCB (rIsi K) (tCons (tVar 0) (tCons (tC (.ty "int")) tNil))) (tNotV (tCB (rIsi K) (tCons (tVar 0) (tCons (tC (.ty "bool")) tNil))))))
theorem run_is_whole {K : PySem.W.Frag} {vs : List V} {H : Hp} {Q : VK} {E : XK} (h : sp_is_whole K vs H Q E) : t_is_whole K (Ends.mk (fun _ H' => Q .non H') Q (fun _ _ => False) (fun _ _ => False)) (start ["thing"] vs) H := by
  obtain ⟨x, t, a, b, rfl, ty, ha, hb, q⟩ := h
  unfold t_is_whole
  k_ownIn
  refine r_isi ty ha ?_
  cases a
  · k_ownIn
    exact q
  · k_ownIn
    refine r_isi ty hb ?_
    k_ownIn
    exact q
theorem len_is_whole {K : PySem.W.Frag} {vs : List V} {H : Hp} {Q : VK} {E : XK} (h : sp_is_whole K vs H Q E) : vs.length = 1 := by
  first | (obtain ⟨rfl, _⟩ := h; rfl) | (obtain ⟨_, rfl, _⟩ := h; rfl) | (obtain ⟨_, _, rfl, _⟩ := h; rfl) | (obtain ⟨_, _, _, rfl, _⟩ := h; rfl) | (obtain ⟨_, _, _, _, rfl, _⟩ := h; rfl) | (obtain ⟨_, _, _, _, _, rfl, _⟩ := h; rfl) | (obtain ⟨_, _, _, _, _, _, rfl, _⟩ := h; rfl) | (obtain ⟨_, _, _, _, _, _, _, rfl, _⟩ := h; rfl) | (obtain ⟨_, _, _, _, _, _, _, _, rfl, _⟩ := h; rfl) | (obtain ⟨_, _, _, _, _, _, _, _, _, rfl, _⟩ := h; rfl) | (obtain ⟨_, _, _, _, _, _, _, _, _, _, rfl, _⟩ := h; rfl) | (obtain ⟨_, _, _, _, _, _, _, _, _, _, _, rfl, _⟩ := h; rfl) | (obtain ⟨_, _, _, _, _, _, _, _, _, _, _, _, rfl, _⟩ := h; rfl) | (obtain ⟨_, _, _, _, _, _, _, _, _, _, _, _, _, rfl, _⟩ := h; rfl)
/-! ### is_between -/
def sp_is_between (K : PySem.W.Frag) : Sp := fun vs H Q _ => ∃ (x : V) (lo hi : Int) (t : String) (a b : Bool), vs = [x, .int lo, .int hi] ∧ TyX K H x (.type t) ∧ kitB t "int" = some a ∧ kitB t "bool" = some b ∧
  (((a && !b) = false ∧ Q (.bl false) H) ∨ ((a && !b) = true ∧ ∃ i, x = .int i ∧ Q (.bl (decide (lo ≤ i ∧ i ≤ hi))) H))
theorem sp_between_int {K : PySem.W.Frag} {H : Hp} {Q : VK} {E : XK} {i lo hi : Int} (q : Q (.bl (decide (lo ≤ i ∧ i ≤ hi))) H) : sp_is_between K [.int i, .int lo, .int hi] H Q E :=
  ⟨_, _, _, "int", true, false, rfl, .base (.int i), by decide +kernel, by decide +kernel, .inr ⟨rfl, _, rfl, q⟩⟩
local macro_rules | `(tactic| kas_types) => `(tactic| (with_reducible refine sp_between_int ?_))
def t_is_between (K : PySem.W.Frag) : TS :=
  (tRet (tAndV (tCall (sp_is_whole K) [] E0 (tCons (tVar 0) tNil)) (tChain (rI0 fun i j => .bl (decide (i ≤ j))) (rI0 fun i j => .bl (decide (i ≤ j))) (tVar 1) (tVar 0) (tVar 2))))
theorem run_is_between {K : PySem.W.Frag} {vs : List V} {H : Hp} {Q : VK} {E : XK} (h : sp_is_between K vs H Q E) : t_is_between K (Ends.mk (fun _ H' => Q .non H') Q (fun _ _ => False) (fun _ _ => False)) (start ["thing", "low", "high"] vs) H := by
  obtain ⟨x, lo, hi, t, a, b, rfl, ty, ha, hb, q⟩ := h
  unfold t_is_between
  k_ownIn
  refine ⟨x, t, a, b, rfl, ty, ha, hb, ?_⟩
  rcases q with ⟨e, q⟩ | ⟨e, i, rfl, q⟩
  · rw [e]
    k_ownIn
    exact q
  · rw [e]
    k_ownIn
    refine ite_d (fun h1 => ?_) (fun h1 => ?_)
    · k_ownIn
      have e2 : decide (lo ≤ i ∧ i ≤ hi) = decide (i ≤ hi) := by simp [h1]
      rw [e2] at q
      exact q
    · have e2 : decide (lo ≤ i ∧ i ≤ hi) = false := by simp [h1]
      rw [e2] at q
      exact q
theorem len_is_between {K : PySem.W.Frag} {vs : List V} {H : Hp} {Q : VK} {E : XK} (h : sp_is_between K vs H Q E) : vs.length = 3 := by
  first | (obtain ⟨rfl, _⟩ := h; rfl) | (obtain ⟨_, rfl, _⟩ := h; rfl) | (obtain ⟨_, _, rfl, _⟩ := h; rfl) | (obtain ⟨_, _, _, rfl, _⟩ := h; rfl) | (obtain ⟨_, _, _, _, rfl, _⟩ := h; rfl) | (obtain ⟨_, _, _, _, _, rfl, _⟩ := h; rfl) | (obtain ⟨_, _, _, _, _, _, rfl, _⟩ := h; rfl) | (obtain ⟨_, _, _, _, _, _, _, rfl, _⟩ := h; rfl) | (obtain ⟨_, _, _, _, _, _, _, _, rfl, _⟩ := h; rfl) | (obtain ⟨_, _, _, _, _, _, _, _, _, rfl, _⟩ := h; rfl) | (obtain ⟨_, _, _, _, _, _, _, _, _, _, rfl, _⟩ := h; rfl) | (obtain ⟨_, _, _, _, _, _, _, _, _, _, _, rfl, _⟩ := h; rfl) | (obtain ⟨_, _, _, _, _, _, _, _, _, _, _, _, rfl, _⟩ := h; rfl) | (obtain ⟨_, _, _, _, _, _, _, _, _, _, _, _, _, rfl, _⟩ := h; rfl)
/-! ### sure_quiet -/
/-- quiet hours that are some -/
def QtOk (H : Hp) (v : V) (o : Option (Int × Int)) : Prop := (v = .non ∧ o = none) ∨ ∃ (t : Addr) (s e : Int), v = .ref t ∧ H t = some (.tup [.int s, .int e]) ∧ o = some (s, e) ∧ 0 ≤ s ∧ s ≤ 1439 ∧ 0 ≤ e ∧ e ≤ 1439 ∧ s ≠ e
def sp_sure_quiet (K : PySem.W.Frag) : Sp := fun vs H Q _ => ∃ (v : V) (o : Option (Int × Int)), vs = [v] ∧ QtOk H v o ∧ ∀ H', Same H H' → Q .non H'
theorem sp_sure_quiet_use {K : PySem.W.Frag} {H : Hp} {Q : VK} {E : XK} {v : V} {o : Option (Int × Int)} (h : QtOk H v o) (q : ∀ H', Same H H' → Q .non H') : sp_sure_quiet K [v] H Q E := ⟨_, _, rfl, h, q⟩
local macro_rules | `(tactic| kas_types) => `(tactic| ((with_reducible refine' sp_sure_quiet_use ?h (fun H' s => ?_)); (case h => fold_depth)))
theorem QtOk.same {H H' : Hp} {v : V} {o : Option (Int × Int)} (h : QtOk H v o) (s : Same H H') : QtOk H' v o := by
  rcases h with h | ⟨t, a, b, h1, h2, h3⟩
  · exact .inl h
  · exact .inr ⟨t, a, b, h1, s _ _ h2, h3⟩
/-- quiet hours, found again -/
local macro_rules | `(tactic| fold_depth) => `(tactic| first
  | assumption
  | exact Or.inl ⟨rfl, rfl⟩
  | (refine' Or.inr ⟨_, _, _, rfl, ?a, rfl, ?b, ?c, ?d, ?e, ?f⟩; (case a => kcj_m); (case b => assumption); (case c => assumption); (case d => assumption); (case e => assumption); (case f => assumption))
  | (refine' QtOk.same ?a ?b; (case a => assumption); (case b => k_subL)))
def t_sure_quiet (K : PySem.W.Frag) : TS :=
  (tSeq (tIfS (tTest (tOp rIsN (tVar 0) (tC .non))) tRetN tNext)
    (tSeq (tIfS (tOr (tNot (tB (tCB (rIsi K) (tCons (tVar 0) (tCons (tC (.ty "tuple")) tNil))))) (tTest (tOp rNe (tCB (rLen K) (tCons (tVar 0) tNil)) (tC (.int 2))))) tNever tNext)
    (tIfS (tOr (tNot (tB (tCB (rAll K) (tCons (tLc (iTup K (tVar 0)) (gName 1) tYes (tCall (sp_is_between K) [] E0 (tCons (tVar 1) (tCons (tC (.int 0)) (tCons (tOp (rI0 fun i j => .int (i - j)) (tC (.int 1440)) (tC (.int 1))) tNil)))) [1]) tNil)))) (tTest (tOp rEq (tOp (rIx K) (tVar 0) (tC (.int 0))) (tOp (rIx K) (tVar 0) (tC (.int 1)))))) tNever tNext)))
theorem run_sure_quiet {K : PySem.W.Frag} {vs : List V} {H : Hp} {Q : VK} {E : XK} (h : sp_sure_quiet K vs H Q E) : t_sure_quiet K (Ends.mk (fun _ H' => Q .non H') Q (fun _ _ => False) (fun _ _ => False)) (start ["quiet", "minute"] vs) H := by
  obtain ⟨v, o, rfl, h, q⟩ := h
  unfold t_sure_quiet
  rcases h with ⟨rfl, rfl⟩ | ⟨t, s, e, rfl, ht, rfl, s0, s1, e0, e1, ne⟩
  · k_ownIn
    exact q _ (Same.refl _)
  · k_ownIn
    kpt_turns
    k_ownIn
    refine r_lcPT (fun x => .bl true) (by k_places) (by simp only [List.length]; omega) (fun x => rfl) ?_ ?_
    · intro x D acc Q' hx hD hq
      obtain ⟨i, rfl, i0, i1⟩ : ∃ i : Int, x = .int i ∧ 0 ≤ i ∧ i ≤ 1439 := by
        simp only [List.mem_cons, List.not_mem_nil, or_false] at hx
        rcases hx with rfl | rfl
        · exact ⟨_, rfl, s0, s1⟩
        · exact ⟨_, rfl, e0, e1⟩
      k_ownIn
      exact q_t (by omega) hq
    · intro D hD
      k_ownIn
      refine r_all (bs := [true, true]) (SqL.of upd_same) ?_
      k_ownIn
      refine ite_bf rfl ?_
      k_ownIn
      refine q _ (by k_subL)
theorem len_sure_quiet {K : PySem.W.Frag} {vs : List V} {H : Hp} {Q : VK} {E : XK} (h : sp_sure_quiet K vs H Q E) : vs.length = 1 := by
  first | (obtain ⟨rfl, _⟩ := h; rfl) | (obtain ⟨_, rfl, _⟩ := h; rfl) | (obtain ⟨_, _, rfl, _⟩ := h; rfl) | (obtain ⟨_, _, _, rfl, _⟩ := h; rfl) | (obtain ⟨_, _, _, _, rfl, _⟩ := h; rfl) | (obtain ⟨_, _, _, _, _, rfl, _⟩ := h; rfl) | (obtain ⟨_, _, _, _, _, _, rfl, _⟩ := h; rfl) | (obtain ⟨_, _, _, _, _, _, _, rfl, _⟩ := h; rfl) | (obtain ⟨_, _, _, _, _, _, _, _, rfl, _⟩ := h; rfl) | (obtain ⟨_, _, _, _, _, _, _, _, _, rfl, _⟩ := h; rfl) | (obtain ⟨_, _, _, _, _, _, _, _, _, _, rfl, _⟩ := h; rfl) | (obtain ⟨_, _, _, _, _, _, _, _, _, _, _, rfl, _⟩ := h; rfl) | (obtain ⟨_, _, _, _, _, _, _, _, _, _, _, _, rfl, _⟩ := h; rfl) | (obtain ⟨_, _, _, _, _, _, _, _, _, _, _, _, _, rfl, _⟩ := h; rfl)
/-! ### sure_zone -/
def sp_sure_zone (K : PySem.W.Frag) : Sp := fun vs H Q _ => ∃ (z : Int), vs = [.int z] ∧ -1439 ≤ z ∧ z ≤ 1439 ∧ Q .non H
theorem sp_sure_zone_use {K : PySem.W.Frag} {H : Hp} {Q : VK} {E : XK} {z : Int} (h0 : -1439 ≤ z) (h1 : z ≤ 1439) (q : Q .non H) : sp_sure_zone K [.int z] H Q E := ⟨_, rfl, h0, h1, q⟩
local macro_rules | `(tactic| kas_types) => `(tactic| ((with_reducible refine sp_sure_zone_use ?a ?b ?_); (case a => omega); (case b => omega)))
def t_sure_zone (K : PySem.W.Frag) : TS :=
  (tIfS (tNot (tB (tCall (sp_is_between K) [] E0 (tCons (tVar 0) (tCons (tOp (rI0 fun i j => .int (i - j)) (tC (.int 1)) (tC (.int 1440))) (tCons (tOp (rI0 fun i j => .int (i - j)) (tC (.int 1440)) (tC (.int 1))) tNil)))))) tNever tNext)
theorem run_sure_zone {K : PySem.W.Frag} {vs : List V} {H : Hp} {Q : VK} {E : XK} (h : sp_sure_zone K vs H Q E) : t_sure_zone K (Ends.mk (fun _ H' => Q .non H') Q (fun _ _ => False) (fun _ _ => False)) (start ["zone"] vs) H := by
  obtain ⟨z, rfl, h0, h1, q⟩ := h
  unfold t_sure_zone
  k_ownIn
  exact q
theorem len_sure_zone {K : PySem.W.Frag} {vs : List V} {H : Hp} {Q : VK} {E : XK} (h : sp_sure_zone K vs H Q E) : vs.length = 1 := by
  first | (obtain ⟨rfl, _⟩ := h; rfl) | (obtain ⟨_, rfl, _⟩ := h; rfl) | (obtain ⟨_, _, rfl, _⟩ := h; rfl) | (obtain ⟨_, _, _, rfl, _⟩ := h; rfl) | (obtain ⟨_, _, _, _, rfl, _⟩ := h; rfl) | (obtain ⟨_, _, _, _, _, rfl, _⟩ := h; rfl) | (obtain ⟨_, _, _, _, _, _, rfl, _⟩ := h; rfl) | (obtain ⟨_, _, _, _, _, _, _, rfl, _⟩ := h; rfl) | (obtain ⟨_, _, _, _, _, _, _, _, rfl, _⟩ := h; rfl) | (obtain ⟨_, _, _, _, _, _, _, _, _, rfl, _⟩ := h; rfl) | (obtain ⟨_, _, _, _, _, _, _, _, _, _, rfl, _⟩ := h; rfl) | (obtain ⟨_, _, _, _, _, _, _, _, _, _, _, rfl, _⟩ := h; rfl) | (obtain ⟨_, _, _, _, _, _, _, _, _, _, _, _, rfl, _⟩ := h; rfl) | (obtain ⟨_, _, _, _, _, _, _, _, _, _, _, _, _, rfl, _⟩ := h; rfl)
/-! ### shown -/
def sp_shown (K : PySem.W.Frag) : Sp := fun vs H Q _ => ∃ (m z : Int), vs = [.int m, .int z] ∧ -1439 ≤ z ∧ z ≤ 1439 ∧ ∀ p, H p = none → Q (.ref p) (upd H p (.tup [.int ((m + z) / 1440), .int ((m + z) % 1440)]))
theorem sp_shown_use {K : PySem.W.Frag} {H : Hp} {Q : VK} {E : XK} {m z : Int} (h0 : -1439 ≤ z) (h1 : z ≤ 1439) (q : ∀ p, H p = none → Q (.ref p) (upd H p (.tup [.int ((m + z) / 1440), .int ((m + z) % 1440)]))) : sp_shown K [.int m, .int z] H Q E := ⟨_, _, rfl, h0, h1, q⟩
local macro_rules | `(tactic| kas_types) => `(tactic| ((with_reducible refine sp_shown_use ?a ?b ?_); (case a => omega); (case b => omega)))
def t_shown (K : PySem.W.Frag) : TS :=
  (tSeq (tDrop (tCall (sp_sure_zone K) [] E0 (tCons (tVar 1) tNil)))
    (tRet (tCB rDivmod (tCons (tOp (rI0 fun i j => .int (i + j)) (tVar 0) (tVar 1)) (tCons (tC (.int 1440)) tNil)))))
theorem run_shown {K : PySem.W.Frag} {vs : List V} {H : Hp} {Q : VK} {E : XK} (h : sp_shown K vs H Q E) : t_shown K (Ends.mk (fun _ H' => Q .non H') Q (fun _ _ => False) (fun _ _ => False)) (start ["moment", "zone"] vs) H := by
  obtain ⟨m, z, rfl, h0, h1, q⟩ := h
  unfold t_shown
  k_ownIn
  exact q _ (by assumption)
theorem len_shown {K : PySem.W.Frag} {vs : List V} {H : Hp} {Q : VK} {E : XK} (h : sp_shown K vs H Q E) : vs.length = 2 := by
  first | (obtain ⟨rfl, _⟩ := h; rfl) | (obtain ⟨_, rfl, _⟩ := h; rfl) | (obtain ⟨_, _, rfl, _⟩ := h; rfl) | (obtain ⟨_, _, _, rfl, _⟩ := h; rfl) | (obtain ⟨_, _, _, _, rfl, _⟩ := h; rfl) | (obtain ⟨_, _, _, _, _, rfl, _⟩ := h; rfl) | (obtain ⟨_, _, _, _, _, _, rfl, _⟩ := h; rfl) | (obtain ⟨_, _, _, _, _, _, _, rfl, _⟩ := h; rfl) | (obtain ⟨_, _, _, _, _, _, _, _, rfl, _⟩ := h; rfl) | (obtain ⟨_, _, _, _, _, _, _, _, _, rfl, _⟩ := h; rfl) | (obtain ⟨_, _, _, _, _, _, _, _, _, _, rfl, _⟩ := h; rfl) | (obtain ⟨_, _, _, _, _, _, _, _, _, _, _, rfl, _⟩ := h; rfl) | (obtain ⟨_, _, _, _, _, _, _, _, _, _, _, _, rfl, _⟩ := h; rfl) | (obtain ⟨_, _, _, _, _, _, _, _, _, _, _, _, _, rfl, _⟩ := h; rfl)
/-! ### is_quiet -/
def quietB (o : Option (Int × Int)) (n : Int) : Bool := match o with
  | none => false
  | some (s, e) => if s < e then decide (s ≤ n) && decide (n < e) else decide (s ≤ n) || decide (n < e)
def sp_is_quiet (K : PySem.W.Frag) : Sp := fun vs H Q _ => ∃ (v : V) (z m : Int) (o : Option (Int × Int)), vs = [v, .int z, .int m] ∧ QtOk H v o ∧ -1439 ≤ z ∧ z ≤ 1439 ∧ ∀ H', Same H H' → Q (.bl (quietB o ((m + z) % 1440))) H'
theorem sp_is_quiet_use {K : PySem.W.Frag} {H : Hp} {Q : VK} {E : XK} {v : V} {z m : Int} {o : Option (Int × Int)} (h : QtOk H v o) (h0 : -1439 ≤ z) (h1 : z ≤ 1439) (q : ∀ H', Same H H' → Q (.bl (quietB o ((m + z) % 1440))) H') : sp_is_quiet K [v, .int z, .int m] H Q E := ⟨_, _, _, _, rfl, h, h0, h1, q⟩
local macro_rules | `(tactic| kas_types) => `(tactic| ((with_reducible refine' sp_is_quiet_use ?h ?h0 ?h1 (fun H' s => ?_)); (case h => fold_depth); (case h0 => omega); (case h1 => omega)))
def t_is_quiet (K : PySem.W.Frag) : TS :=
  (tSeq (tDrop (tCall (sp_sure_quiet K) [] E0 (tCons (tVar 0) tNil)))
    (tSeq (tAsg (tCall (sp_shown K) [] E0 (tCons (tVar 2) (tCons (tVar 1) tNil))) (gTup K 2 (gCons (gName 3) (gCons (gName 4) gNil))))
    (tSeq (tIfS (tTest (tOp rIsN (tVar 0) (tC .non))) (tRet (tC (.bl false))) tNext)
    (tSeq (tAsg (tVar 0) (gTup K 2 (gCons (gName 5) (gCons (gName 6) gNil))))
    (tSeq (tIfS (tTest (tOp (rI0 fun i j => .bl (decide (i < j))) (tVar 5) (tVar 6))) (tRet (tChain (rI0 fun i j => .bl (decide (i ≤ j))) (rI0 fun i j => .bl (decide (i < j))) (tVar 5) (tVar 4) (tVar 6))) tNext)
    (tRet (tOrV (tOp (rI0 fun i j => .bl (decide (j ≤ i))) (tVar 4) (tVar 5)) (tOp (rI0 fun i j => .bl (decide (i < j))) (tVar 4) (tVar 6)))))))))
theorem run_is_quiet {K : PySem.W.Frag} {vs : List V} {H : Hp} {Q : VK} {E : XK} (h : sp_is_quiet K vs H Q E) : t_is_quiet K (Ends.mk (fun _ H' => Q .non H') Q (fun _ _ => False) (fun _ _ => False)) (start ["quiet", "zone", "moment", "day", "minute", "start", "end"] vs) H := by
  obtain ⟨v, z, m, o, rfl, h, z0, z1, q⟩ := h
  unfold t_is_quiet
  rcases id h with ⟨rfl, rfl⟩ | ⟨t, s, e, rfl, ht, rfl, s0, s1, e0, e1, ne⟩
  · k_ownIn
    exact q _ (by k_subL)
  · k_ownIn
    keq_rows
    · intro hse
      k_ownIn
      refine ite_d (fun h1 => ?_) (fun h1 => ?_)
      · k_ownIn
        refine q_bl ?_ (q _ (by k_subL))
        unfold quietB; simp [hse, h1]
      · refine q_bl ?_ (q _ (by k_subL))
        unfold quietB; simp [hse, h1]
    · intro hse
      k_ownIn
      refine ite_d (fun h1 => ?_) (fun h1 => ?_)
      · refine q_bl ?_ (q _ (by k_subL))
        unfold quietB; simp [hse, h1]
      · k_ownIn
        refine q_bl ?_ (q _ (by k_subL))
        unfold quietB; simp [hse, h1]
theorem len_is_quiet {K : PySem.W.Frag} {vs : List V} {H : Hp} {Q : VK} {E : XK} (h : sp_is_quiet K vs H Q E) : vs.length = 3 := by
  first | (obtain ⟨rfl, _⟩ := h; rfl) | (obtain ⟨_, rfl, _⟩ := h; rfl) | (obtain ⟨_, _, rfl, _⟩ := h; rfl) | (obtain ⟨_, _, _, rfl, _⟩ := h; rfl) | (obtain ⟨_, _, _, _, rfl, _⟩ := h; rfl) | (obtain ⟨_, _, _, _, _, rfl, _⟩ := h; rfl) | (obtain ⟨_, _, _, _, _, _, rfl, _⟩ := h; rfl) | (obtain ⟨_, _, _, _, _, _, _, rfl, _⟩ := h; rfl) | (obtain ⟨_, _, _, _, _, _, _, _, rfl, _⟩ := h; rfl) | (obtain ⟨_, _, _, _, _, _, _, _, _, rfl, _⟩ := h; rfl) | (obtain ⟨_, _, _, _, _, _, _, _, _, _, rfl, _⟩ := h; rfl) | (obtain ⟨_, _, _, _, _, _, _, _, _, _, _, rfl, _⟩ := h; rfl) | (obtain ⟨_, _, _, _, _, _, _, _, _, _, _, _, rfl, _⟩ := h; rfl) | (obtain ⟨_, _, _, _, _, _, _, _, _, _, _, _, _, rfl, _⟩ := h; rfl)
/-! ### loud_from -/
def loudF (o : Option (Int × Int)) (n : Int) : Int := match o with
  | none => 0
  | some (s, e) => if quietB (some (s, e)) n = true then (e - n) % 1440 else 0
theorem loudF_none (n : Int) : loudF none n = 0 := rfl
theorem loudF_some (s e n : Int) : loudF (some (s, e)) n = if quietB (some (s, e)) n = true then (e - n) % 1440 else 0 := rfl
def sp_loud_from (K : PySem.W.Frag) : Sp := fun vs H Q _ => ∃ (v : V) (z m : Int) (o : Option (Int × Int)), vs = [v, .int z, .int m] ∧ QtOk H v o ∧ -1439 ≤ z ∧ z ≤ 1439 ∧ ∀ H', Same H H' → Q (.int (m + loudF o ((m + z) % 1440))) H'
theorem sp_loud_use {K : PySem.W.Frag} {H : Hp} {Q : VK} {E : XK} {v : V} {z m : Int} {o : Option (Int × Int)} (h : QtOk H v o) (h0 : -1439 ≤ z) (h1 : z ≤ 1439) (q : ∀ H', Same H H' → Q (.int (m + loudF o ((m + z) % 1440))) H') : sp_loud_from K [v, .int z, .int m] H Q E := ⟨_, _, _, _, rfl, h, h0, h1, q⟩
local macro_rules | `(tactic| kas_types) => `(tactic| ((with_reducible refine' sp_loud_use ?h ?h0 ?h1 (fun H' s => ?_)); (case h => fold_depth); (case h0 => omega); (case h1 => omega)))
def t_loud_from (K : PySem.W.Frag) : TS :=
  (tSeq (tIfS (tNot (tB (tCall (sp_is_quiet K) [] E0 (tCons (tVar 0) (tCons (tVar 1) (tCons (tVar 2) tNil)))))) (tRet (tVar 2)) tNext)
    (tRet (tOp (rI0 fun i j => .int (i + j)) (tVar 2) (tOp (rI (fun _ j => 0 < j) fun i j => .int (i % j)) (tOp (rI0 fun i j => .int (i - j)) (tOp (rIx K) (tVar 0) (tC (.int 1))) (tOp (rIx K) (tCall (sp_shown K) [] E0 (tCons (tVar 2) (tCons (tVar 1) tNil))) (tC (.int 1)))) (tC (.int 1440))))))
theorem run_loud_from {K : PySem.W.Frag} {vs : List V} {H : Hp} {Q : VK} {E : XK} (h : sp_loud_from K vs H Q E) : t_loud_from K (Ends.mk (fun _ H' => Q .non H') Q (fun _ _ => False) (fun _ _ => False)) (start ["quiet", "zone", "moment"] vs) H := by
  obtain ⟨v, z, m, o, rfl, h, z0, z1, q⟩ := h
  unfold t_loud_from
  rcases id h with ⟨rfl, rfl⟩ | ⟨t, s, e, rfl, ht, rfl, s0, s1, e0, e1, ne⟩
  · k_ownIn
    kpt_turns
    k_ownIn
    refine ite_bt (by unfold quietB; rfl) ?_
    k_ownIn
    have := q _ (by assumption)
    rw [show m + loudF none ((m + z) % 1440) = m by rw [loudF_none, Int.add_zero]] at this
    exact this
  · k_ownIn
    kpt_turns
    k_ownIn
    refine ite_b (fun hb => ?_) (fun hb => ?_)
    · have hb : quietB (some (s, e)) ((m + z) % 1440) = false := by simpa using hb
      k_ownIn
      have := q _ (by assumption)
      rw [show m + loudF (some (s, e)) ((m + z) % 1440) = m by rw [loudF_some, hb]; simp] at this
      exact this
    · have hb : quietB (some (s, e)) ((m + z) % 1440) = true := by simpa using hb
      k_ownIn
      have hl : loudF (some (s, e)) ((m + z) % 1440) = (e - (m + z) % 1440) % 1440 := by rw [loudF_some, hb]; simp
      rw [hl] at q
      exact q _ (by k_subL)
theorem len_loud_from {K : PySem.W.Frag} {vs : List V} {H : Hp} {Q : VK} {E : XK} (h : sp_loud_from K vs H Q E) : vs.length = 3 := by
  first | (obtain ⟨rfl, _⟩ := h; rfl) | (obtain ⟨_, rfl, _⟩ := h; rfl) | (obtain ⟨_, _, rfl, _⟩ := h; rfl) | (obtain ⟨_, _, _, rfl, _⟩ := h; rfl) | (obtain ⟨_, _, _, _, rfl, _⟩ := h; rfl) | (obtain ⟨_, _, _, _, _, rfl, _⟩ := h; rfl) | (obtain ⟨_, _, _, _, _, _, rfl, _⟩ := h; rfl) | (obtain ⟨_, _, _, _, _, _, _, rfl, _⟩ := h; rfl) | (obtain ⟨_, _, _, _, _, _, _, _, rfl, _⟩ := h; rfl) | (obtain ⟨_, _, _, _, _, _, _, _, _, rfl, _⟩ := h; rfl) | (obtain ⟨_, _, _, _, _, _, _, _, _, _, rfl, _⟩ := h; rfl) | (obtain ⟨_, _, _, _, _, _, _, _, _, _, _, rfl, _⟩ := h; rfl) | (obtain ⟨_, _, _, _, _, _, _, _, _, _, _, _, rfl, _⟩ := h; rfl) | (obtain ⟨_, _, _, _, _, _, _, _, _, _, _, _, _, rfl, _⟩ := h; rfl)
/-! ### _law_other -/
def sp_law_other (K : PySem.W.Frag) : Sp := fun vs H Q _ => ∃ (l t : Addr) (w : Wl) (z s e m : Int), vs = [.ref l, .int z, .ref t, .int m] ∧ H l = some w.o ∧ H t = some (.tup [.int s, .int e]) ∧ 0 ≤ s ∧ s ≤ 1439 ∧ 0 ≤ e ∧ e ≤ 1439 ∧ -1439 ≤ z ∧ z ≤ 1439 ∧ -11000000000000 ≤ m ∧ m ≤ 11000000000000 ∧ ∀ (m : Int) (w' : Wl) (H' : Hp), -12000000000000 ≤ m → m ≤ 12000000000000 → H' l = some w'.o → Kp l H H' → Q (.int m) H'
theorem sp_other_use {K : PySem.W.Frag} {H : Hp} {Q : VK} {E : XK} {l t : Addr} {w : Wl} {z s e m : Int} (h : H l = some w.o) (ht : H t = some (.tup [.int s, .int e])) (s0 : 0 ≤ s) (s1 : s ≤ 1439) (e0 : 0 ≤ e) (e1 : e ≤ 1439) (z0 : -1439 ≤ z) (z1 : z ≤ 1439) (m0 : -11000000000000 ≤ m) (m1 : m ≤ 11000000000000) (q : ∀ (m : Int) (w' : Wl) (H' : Hp), -12000000000000 ≤ m → m ≤ 12000000000000 → H' l = some w'.o → Kp l H H' → Q (.int m) H') : sp_law_other K [.ref l, .int z, .ref t, .int m] H Q E := ⟨_, _, _, _, _, _, _, rfl, h, ht, s0, s1, e0, e1, z0, z1, m0, m1, q⟩
local macro_rules | `(tactic| kas_types) => `(tactic| ((with_reducible refine' sp_other_use ?h ?ht ?a ?b ?c ?d ?e ?f ?g ?i (fun m w' H' m0 m1 hl k => ?_)); (case h => kcj_m); (case ht => kcj_m); (case a => omega); (case b => omega); (case c => omega); (case d => omega); (case e => omega); (case f => omega); (case g => omega); (case i => omega)))
def t_law_other (K : PySem.W.Frag) : TS :=
  (tSeq (tAsg (tCall (sp_law_draw K) [] E0 (tCons (tVar 0) (tCons (tC (.int 4)) tNil))) (gName 4))
    (tSeq (tIfS (tTest (tOp rEq (tVar 4) (tC (.int 0)))) (tRet (tOp (rI0 fun i j => .int (i + j)) (tVar 3) (tCall (sp_law_draw K) [] E0 (tCons (tVar 0) (tCons (tC (.int 3001)) tNil))))) tNext)
    (tSeq (tIfS (tTest (tOp rEq (tVar 4) (tC (.int 1)))) (tRet (tOp (rI0 fun i j => .int (i - j)) (tOp (rI0 fun i j => .int (i + j)) (tOp (rI0 fun i j => .int (i + j)) (tVar 3) (tOp (rI CMul fun i j => .int (i * j)) (tC (.int 1440)) (tCall (sp_law_draw K) [] E0 (tCons (tVar 0) (tCons (tC (.int 4)) tNil))))) (tCall (sp_law_draw K) [] E0 (tCons (tVar 0) (tCons (tC (.int 3)) tNil)))) (tC (.int 1)))) tNext)
    (tSeq (tIfS (tTest (tOp rEq (tVar 4) (tC (.int 2)))) (tRet (tOp (rI0 fun i j => .int (i - j)) (tVar 3) (tCall (sp_law_draw K) [] E0 (tCons (tVar 0) (tCons (tC (.int 3)) tNil))))) tNext)
    (tRet (tCall (sp_law_moment K) [] E0 (tCons (tVar 0) (tCons (tVar 1) (tCons (tVar 2) tNil)))))))))
theorem run_law_other {K : PySem.W.Frag} {vs : List V} {H : Hp} {Q : VK} {E : XK} (h : sp_law_other K vs H Q E) : t_law_other K (Ends.mk (fun _ H' => Q .non H') Q (fun _ _ => False) (fun _ _ => False)) (start ["_law_well_here", "_law_zone", "_law_quiet_here", "_law_moment_here", "_law_way"] vs) H := by
  obtain ⟨l, t, w, z, s, e, m, rfl, hl, ht, s0, s1, e0, e1, z0, z1, m0, m1, q⟩ := h
  unfold t_law_other
  k_ownIn
  keq_rows
  · intro hc
    k_ownIn
    exact q _ _ _ (by omega) (by omega) (by kcj_m) (by k_subL)
  · intro hc
    k_ownIn
    keq_rows
    · intro hc
      k_ownIn
      exact q _ _ _ (by omega) (by omega) (by kcj_m) (by k_subL)
    · intro hc
      k_ownIn
      keq_rows
      · intro hc
        k_ownIn
        exact q _ _ _ (by omega) (by omega) (by kcj_m) (by k_subL)
      · intro hc
        k_ownIn
        exact q _ _ _ (by omega) (by omega) (by kcj_m) (by k_subL)
theorem len_law_other {K : PySem.W.Frag} {vs : List V} {H : Hp} {Q : VK} {E : XK} (h : sp_law_other K vs H Q E) : vs.length = 4 := by
  first | (obtain ⟨rfl, _⟩ := h; rfl) | (obtain ⟨_, rfl, _⟩ := h; rfl) | (obtain ⟨_, _, rfl, _⟩ := h; rfl) | (obtain ⟨_, _, _, rfl, _⟩ := h; rfl) | (obtain ⟨_, _, _, _, rfl, _⟩ := h; rfl) | (obtain ⟨_, _, _, _, _, rfl, _⟩ := h; rfl) | (obtain ⟨_, _, _, _, _, _, rfl, _⟩ := h; rfl) | (obtain ⟨_, _, _, _, _, _, _, rfl, _⟩ := h; rfl) | (obtain ⟨_, _, _, _, _, _, _, _, rfl, _⟩ := h; rfl) | (obtain ⟨_, _, _, _, _, _, _, _, _, rfl, _⟩ := h; rfl) | (obtain ⟨_, _, _, _, _, _, _, _, _, _, rfl, _⟩ := h; rfl) | (obtain ⟨_, _, _, _, _, _, _, _, _, _, _, rfl, _⟩ := h; rfl) | (obtain ⟨_, _, _, _, _, _, _, _, _, _, _, _, rfl, _⟩ := h; rfl) | (obtain ⟨_, _, _, _, _, _, _, _, _, _, _, _, _, rfl, _⟩ := h; rfl)
/-! ### quiet_ahead -/
def sp_quiet_ahead (K : PySem.W.Frag) : Sp := fun vs H Q _ => ∃ (t : Addr) (s e z m : Int), vs = [.ref t, .int z, .int m] ∧ H t = some (.tup [.int s, .int e]) ∧ QOk s e ∧ -1439 ≤ z ∧ z ≤ 1439 ∧ ∀ H', Same H H' → Q (.int (qF s e (m + z))) H'
theorem sp_ahead_use {K : PySem.W.Frag} {H : Hp} {Q : VK} {E : XK} {t : Addr} {s e z m : Int} (ht : H t = some (.tup [.int s, .int e])) (o : QOk s e) (z0 : -1439 ≤ z) (z1 : z ≤ 1439) (q : ∀ H', Same H H' → Q (.int (qF s e (m + z))) H') : sp_quiet_ahead K [.ref t, .int z, .int m] H Q E := ⟨_, _, _, _, _, rfl, ht, o, z0, z1, q⟩
local macro_rules | `(tactic| kas_types) => `(tactic| ((with_reducible refine' sp_ahead_use ?ht ?o ?h0 ?h1 (fun H' s => ?_)); (case ht => kcj_m); (case o => assumption); (case h0 => omega); (case h1 => omega)))
def t_quiet_ahead (K : PySem.W.Frag) : TS :=
  (tSeq (tAsg (tVar 0) (gTup K 2 (gCons (gName 3) (gCons (gName 4) gNil))))
    (tSeq (tAsg (tCall (sp_shown K) [] E0 (tCons (tVar 2) (tCons (tVar 1) tNil))) (gTup K 2 (gCons (gName 5) (gCons (gName 6) gNil))))
    (tSeq (tIfS (tTest (tOp (rI0 fun i j => .bl (decide (i < j))) (tVar 3) (tVar 4))) (tRet (tOp (rI0 fun i j => .int (i + j)) (tOp (rI CMul fun i j => .int (i * j)) (tVar 5) (tOp (rI0 fun i j => .int (i - j)) (tVar 4) (tVar 3))) (tCB rMin2 (tCons (tCB rMax2 (tCons (tOp (rI0 fun i j => .int (i - j)) (tVar 6) (tVar 3)) (tCons (tC (.int 0)) tNil))) (tCons (tOp (rI0 fun i j => .int (i - j)) (tVar 4) (tVar 3)) tNil))))) tNext)
    (tRet (tOp (rI0 fun i j => .int (i + j)) (tOp (rI0 fun i j => .int (i + j)) (tOp (rI CMul fun i j => .int (i * j)) (tVar 5) (tOp (rI0 fun i j => .int (i - j)) (tOp (rI0 fun i j => .int (i + j)) (tVar 4) (tC (.int 1440))) (tVar 3))) (tCB rMin2 (tCons (tVar 6) (tCons (tVar 4) tNil)))) (tCB rMax2 (tCons (tOp (rI0 fun i j => .int (i - j)) (tVar 6) (tVar 3)) (tCons (tC (.int 0)) tNil))))))))
theorem run_quiet_ahead {K : PySem.W.Frag} {vs : List V} {H : Hp} {Q : VK} {E : XK} (h : sp_quiet_ahead K vs H Q E) : t_quiet_ahead K (Ends.mk (fun _ H' => Q .non H') Q (fun _ _ => False) (fun _ _ => False)) (start ["quiet", "zone", "moment", "start", "end", "day", "minute"] vs) H := by
  obtain ⟨t, s, e, z, m, rfl, ht, o, z0, z1, q⟩ := h
  obtain ⟨s0, s1, e0, e1, ne⟩ := id o
  unfold t_quiet_ahead
  k_ownIn
  keq_rows
  · intro hse
    k_ownIn
    have hL : (e - s) % 1440 = e - s := by omega
    have hr : qF s e (m + z) = (m + z) / 1440 * (e - s) + (if e - s < (if 0 > (m + z) % 1440 - s then 0 else (m + z) % 1440 - s) then e - s else (if 0 > (m + z) % 1440 - s then 0 else (m + z) % 1440 - s)) := by
      unfold qF qPart
      rw [hL, if_pos hse]
      generalize (m + z) / 1440 * (e - s) = x
      (repeat' split) <;> omega
    rw [hr] at q
    exact q _ (by k_subL)
  · intro hse
    k_ownIn
    have hL : (e - s) % 1440 = e + 1440 - s := by omega
    have hr : qF s e (m + z) = (m + z) / 1440 * (e + 1440 - s) + (if e < (m + z) % 1440 then e else (m + z) % 1440) + (if 0 > (m + z) % 1440 - s then 0 else (m + z) % 1440 - s) := by
      unfold qF qPart
      rw [hL, if_neg hse]
      generalize (m + z) / 1440 * (e + 1440 - s) = x
      (repeat' split) <;> omega
    rw [hr] at q
    exact q _ (by k_subL)
theorem len_quiet_ahead {K : PySem.W.Frag} {vs : List V} {H : Hp} {Q : VK} {E : XK} (h : sp_quiet_ahead K vs H Q E) : vs.length = 3 := by
  first | (obtain ⟨rfl, _⟩ := h; rfl) | (obtain ⟨_, rfl, _⟩ := h; rfl) | (obtain ⟨_, _, rfl, _⟩ := h; rfl) | (obtain ⟨_, _, _, rfl, _⟩ := h; rfl) | (obtain ⟨_, _, _, _, rfl, _⟩ := h; rfl) | (obtain ⟨_, _, _, _, _, rfl, _⟩ := h; rfl) | (obtain ⟨_, _, _, _, _, _, rfl, _⟩ := h; rfl) | (obtain ⟨_, _, _, _, _, _, _, rfl, _⟩ := h; rfl) | (obtain ⟨_, _, _, _, _, _, _, _, rfl, _⟩ := h; rfl) | (obtain ⟨_, _, _, _, _, _, _, _, _, rfl, _⟩ := h; rfl) | (obtain ⟨_, _, _, _, _, _, _, _, _, _, rfl, _⟩ := h; rfl) | (obtain ⟨_, _, _, _, _, _, _, _, _, _, _, rfl, _⟩ := h; rfl) | (obtain ⟨_, _, _, _, _, _, _, _, _, _, _, _, rfl, _⟩ := h; rfl) | (obtain ⟨_, _, _, _, _, _, _, _, _, _, _, _, _, rfl, _⟩ := h; rfl)
/-! ### quiet_count -/
def countF (o : Option (Int × Int)) (a b : Int) : Int := match o with
  | none => 0
  | some (s, e) => if b ≤ a then 0 else qF s e b - qF s e a
theorem countF_none (a b : Int) : countF none a b = 0 := rfl
theorem countF_some (s e a b : Int) : countF (some (s, e)) a b = if b ≤ a then 0 else qF s e b - qF s e a := rfl
theorem countF_le {s e a b : Int} (h : a ≤ b) : countF (some (s, e)) a b = qF s e b - qF s e a := by
  rw [countF_some]
  by_cases hb : b ≤ a
  · have e1 : a = b := by omega
    rw [if_pos hb, e1]; omega
  · rw [if_neg hb]
def sp_quiet_count (K : PySem.W.Frag) : Sp := fun vs H Q _ => ∃ (v : V) (z a b : Int) (o : Option (Int × Int)), vs = [v, .int z, .int a, .int b] ∧ QtOk H v o ∧ -1439 ≤ z ∧ z ≤ 1439 ∧ ∀ H', Same H H' → Q (.int (countF o (a + z) (b + z))) H'
theorem sp_count_use {K : PySem.W.Frag} {H : Hp} {Q : VK} {E : XK} {v : V} {z a b : Int} {o : Option (Int × Int)} (h : QtOk H v o) (h0 : -1439 ≤ z) (h1 : z ≤ 1439) (q : ∀ H', Same H H' → Q (.int (countF o (a + z) (b + z))) H') : sp_quiet_count K [v, .int z, .int a, .int b] H Q E := ⟨_, _, _, _, _, rfl, h, h0, h1, q⟩
local macro_rules | `(tactic| kas_types) => `(tactic| ((with_reducible refine' sp_count_use ?h ?h0 ?h1 (fun H' s => ?_)); (case h => fold_depth); (case h0 => omega); (case h1 => omega)))
def t_quiet_count (K : PySem.W.Frag) : TS :=
  (tSeq (tDrop (tCall (sp_sure_quiet K) [] E0 (tCons (tVar 0) tNil)))
    (tSeq (tDrop (tCall (sp_sure_zone K) [] E0 (tCons (tVar 1) tNil)))
    (tSeq (tIfS (tOr (tTest (tOp rIsN (tVar 0) (tC .non))) (tTest (tOp (rI0 fun i j => .bl (decide (i ≤ j))) (tVar 3) (tVar 2)))) (tRet (tC (.int 0))) tNext)
    (tRet (tOp (rI0 fun i j => .int (i - j)) (tCall (sp_quiet_ahead K) [] E0 (tCons (tVar 0) (tCons (tVar 1) (tCons (tVar 3) tNil)))) (tCall (sp_quiet_ahead K) [] E0 (tCons (tVar 0) (tCons (tVar 1) (tCons (tVar 2) tNil)))))))))
theorem run_quiet_count {K : PySem.W.Frag} {vs : List V} {H : Hp} {Q : VK} {E : XK} (h : sp_quiet_count K vs H Q E) : t_quiet_count K (Ends.mk (fun _ H' => Q .non H') Q (fun _ _ => False) (fun _ _ => False)) (start ["quiet", "zone", "one", "other"] vs) H := by
  obtain ⟨v, z, a, b, o, rfl, h, z0, z1, q⟩ := h
  unfold t_quiet_count
  rcases id h with ⟨rfl, rfl⟩ | ⟨t, s, e, rfl, ht, rfl, s0, s1, e0, e1, ne⟩
  · k_ownIn
    exact q _ (by k_subL)
  · have o : QOk s e := ⟨s0, s1, e0, e1, ne⟩
    k_ownIn
    keq_rows
    · intro hc
      have hle : b ≤ a := by simpa using hc
      k_ownIn
      have e1 : countF (some (s, e)) (a + z) (b + z) = 0 := by unfold countF; exact if_pos (by omega)
      rw [e1] at q
      exact q _ (by k_subL)
    · intro hc
      have hle : ¬ b ≤ a := by simpa using hc
      k_ownIn
      have e1 : countF (some (s, e)) (a + z) (b + z) = qF s e (b + z) - qF s e (a + z) := by unfold countF; exact if_neg (by omega)
      rw [e1] at q
      exact q _ (by k_subL)
theorem len_quiet_count {K : PySem.W.Frag} {vs : List V} {H : Hp} {Q : VK} {E : XK} (h : sp_quiet_count K vs H Q E) : vs.length = 4 := by
  first | (obtain ⟨rfl, _⟩ := h; rfl) | (obtain ⟨_, rfl, _⟩ := h; rfl) | (obtain ⟨_, _, rfl, _⟩ := h; rfl) | (obtain ⟨_, _, _, rfl, _⟩ := h; rfl) | (obtain ⟨_, _, _, _, rfl, _⟩ := h; rfl) | (obtain ⟨_, _, _, _, _, rfl, _⟩ := h; rfl) | (obtain ⟨_, _, _, _, _, _, rfl, _⟩ := h; rfl) | (obtain ⟨_, _, _, _, _, _, _, rfl, _⟩ := h; rfl) | (obtain ⟨_, _, _, _, _, _, _, _, rfl, _⟩ := h; rfl) | (obtain ⟨_, _, _, _, _, _, _, _, _, rfl, _⟩ := h; rfl) | (obtain ⟨_, _, _, _, _, _, _, _, _, _, rfl, _⟩ := h; rfl) | (obtain ⟨_, _, _, _, _, _, _, _, _, _, _, rfl, _⟩ := h; rfl) | (obtain ⟨_, _, _, _, _, _, _, _, _, _, _, _, rfl, _⟩ := h; rfl) | (obtain ⟨_, _, _, _, _, _, _, _, _, _, _, _, _, rfl, _⟩ := h; rfl)
/-! ### _law_whole -/
def sp_law_whole (K : PySem.W.Frag) : Sp := fun vs H Q _ => ∃ (i : Int), vs = [.int i] ∧ Q (.bl true) H
theorem sp_lwhole_int {K : PySem.W.Frag} {H : Hp} {Q : VK} {E : XK} {i : Int} (q : Q (.bl true) H) : sp_law_whole K [.int i] H Q E := ⟨_, rfl, q⟩
local macro_rules | `(tactic| kas_types) => `(tactic| (with_reducible refine sp_lwhole_int ?_))
def t_law_whole (K : PySem.W.Frag) : TS :=
  (tRet (tAndV (tCB (rIsi K) (tCons (tVar 0) (tCons (tC (.ty "int")) tNil))) (tNotV (tCB (rIsi K) (tCons (tVar 0) (tCons (tC (.ty "bool")) tNil))))))
theorem run_law_whole {K : PySem.W.Frag} {vs : List V} {H : Hp} {Q : VK} {E : XK} (h : sp_law_whole K vs H Q E) : t_law_whole K (Ends.mk (fun _ H' => Q .non H') Q (fun _ _ => False) (fun _ _ => False)) (start ["_law_found"] vs) H := by
  obtain ⟨i, rfl, q⟩ := h
  unfold t_law_whole
  k_ownIn
  exact q
theorem len_law_whole {K : PySem.W.Frag} {vs : List V} {H : Hp} {Q : VK} {E : XK} (h : sp_law_whole K vs H Q E) : vs.length = 1 := by
  first | (obtain ⟨rfl, _⟩ := h; rfl) | (obtain ⟨_, rfl, _⟩ := h; rfl) | (obtain ⟨_, _, rfl, _⟩ := h; rfl) | (obtain ⟨_, _, _, rfl, _⟩ := h; rfl) | (obtain ⟨_, _, _, _, rfl, _⟩ := h; rfl) | (obtain ⟨_, _, _, _, _, rfl, _⟩ := h; rfl) | (obtain ⟨_, _, _, _, _, _, rfl, _⟩ := h; rfl) | (obtain ⟨_, _, _, _, _, _, _, rfl, _⟩ := h; rfl) | (obtain ⟨_, _, _, _, _, _, _, _, rfl, _⟩ := h; rfl) | (obtain ⟨_, _, _, _, _, _, _, _, _, rfl, _⟩ := h; rfl) | (obtain ⟨_, _, _, _, _, _, _, _, _, _, rfl, _⟩ := h; rfl) | (obtain ⟨_, _, _, _, _, _, _, _, _, _, _, rfl, _⟩ := h; rfl) | (obtain ⟨_, _, _, _, _, _, _, _, _, _, _, _, rfl, _⟩ := h; rfl) | (obtain ⟨_, _, _, _, _, _, _, _, _, _, _, _, _, rfl, _⟩ := h; rfl)
/-! ### _law_loud -/
def sp_law_loud (K : PySem.W.Frag) : Sp := fun vs H Q _ => ∃ (p : Addr) (s e z a : Int), vs = [.ref p, .int z, .int a] ∧ H p = some (.lst (marksI s ((e - s) % 1440).toNat)) ∧ QOk s e ∧ -1439 ≤ z ∧ z ≤ 1439 ∧ Q (.int (a + loudF (some (s, e)) ((a + z) % 1440))) H
theorem sp_lloud_use {K : PySem.W.Frag} {H : Hp} {Q : VK} {E : XK} {p : Addr} {s e z a : Int} (hp : H p = some (.lst (marksI s ((e - s) % 1440).toNat))) (o : QOk s e) (z0 : -1439 ≤ z) (z1 : z ≤ 1439) (q : Q (.int (a + loudF (some (s, e)) ((a + z) % 1440))) H) : sp_law_loud K [.ref p, .int z, .int a] H Q E := ⟨_, _, _, _, _, rfl, hp, o, z0, z1, q⟩
local macro_rules | `(tactic| kas_types) => `(tactic| ((with_reducible refine' sp_lloud_use ?h ?o ?a ?b ?_); (case h => kcj_m); (case o => assumption); (case a => omega); (case b => omega)))
theorem loud_dist {s e t : Int} (o : QOk s e) : loudF (some (s, e)) (t % 1440) = if (t - s) % 1440 < (e - s) % 1440 then (e - t) % 1440 else 0 := by
  obtain ⟨s0, s1, e0, e1, ne⟩ := o
  rw [loudF_some]
  have hq : quietB (some (s, e)) (t % 1440) = true ↔ (t - s) % 1440 < (e - s) % 1440 := by
    unfold quietB
    by_cases h : s < e
    · simp only [h, if_true, Bool.and_eq_true, decide_eq_true_eq]; omega
    · simp only [h, if_false, Bool.or_eq_true, decide_eq_true_eq]; omega
  by_cases h : (t - s) % 1440 < (e - s) % 1440
  · rw [if_pos (hq.mpr h), if_pos h]; omega
  · rw [if_neg (fun z => h (hq.mp z)), if_neg h]
def t_law_loud (K : PySem.W.Frag) : TS :=
  (tSeq (tWhile (tTest (tOp rEq (tOp (rIx K) (tVar 0) (tOp (rI (fun _ j => 0 < j) fun i j => .int (i % j)) (tOp (rI0 fun i j => .int (i + j)) (tVar 2) (tVar 1)) (tC (.int 1440)))) (tC (.int 1))))
    (tAsg (tOp (rI0 fun i j => .int (i + j)) (tVar 2) (tC (.int 1))) (gName 2)))
    (tRet (tVar 2)))
theorem run_law_loud {K : PySem.W.Frag} {vs : List V} {H : Hp} {Q : VK} {E : XK} (h : sp_law_loud K vs H Q E) : t_law_loud K (Ends.mk (fun _ H' => Q .non H') Q (fun _ _ => False) (fun _ _ => False)) (start ["_law_marks_here", "_law_zone", "_law_moment_here"] vs) H := by
  obtain ⟨p, s, e, z, a, rfl, hp, o, z0, z1, q⟩ := h
  unfold t_law_loud
  rw [loud_dist o] at q
  obtain ⟨s0, s1, e0, e1, ne⟩ := id o
  generalize hD : (if (a + z - s) % 1440 < (e - s) % 1440 then (e - (a + z)) % 1440 else 0) = D at q
  have hD0 : 0 ≤ D := by rw [← hD]; split <;> omega
  k_ownIn
  refine r_while (fun k σ' H' => ∃ d : Int, 0 ≤ d ∧ d + k = D ∧ σ' = [some (.ref p), some (.int z), some (.int (a + d))] ∧ H' = H) D.toNat ⟨0, by omega, by omega, by rw [Int.add_zero]; rfl, rfl⟩ ?_
  rintro k σ' H' ⟨d, d0, hd, rfl, rfl⟩
  have n0 : 0 ≤ (a + d + z) % 1440 := by omega
  have n1 : (a + d + z) % 1440 < 1440 := by omega
  have nn : (((a + d + z) % 1440).toNat : Int) = (a + d + z) % 1440 := by omega
  have hmk := marksI_at s ((e - s) % 1440).toNat (n := ((a + d + z) % 1440).toNat) (by omega)
  rw [mI_q, nn] at hmk
  have hm : qI s e ((a + d + z) % 1440) = if k = 0 then 0 else 1 := by
    unfold qI
    by_cases hk : k = 0
    · rw [if_pos hk]
      have hDd : d = D := by omega
      rw [if_neg]
      rw [← hDd] at hD
      split at hD <;> omega
    · rw [if_neg hk]
      rw [if_pos]
      split at hD <;> omega
  k_ownIn
  refine r_ixL (SqL.of hp) (ix_some nn.symm hmk) ?_
  k_ownIn
  rw [hm]
  refine whB (fun hb N hN => ?_) (fun hb => ?_)
  · have hk : ¬ k = 0 := fun z => by rw [if_pos z] at hb; simp at hb
    k_ownIn
    refine hN (k - 1) _ _ (by omega) ⟨d + 1, by omega, by omega, ?_, rfl⟩
    rw [← Int.add_assoc]
    rfl
  · have hk : k = 0 := by
      by_cases h : k = 0
      · exact h
      · rw [if_neg h] at hb; simp at hb
    k_ownIn
    have hDd : d = D := by omega
    rw [hDd]
    exact q
theorem len_law_loud {K : PySem.W.Frag} {vs : List V} {H : Hp} {Q : VK} {E : XK} (h : sp_law_loud K vs H Q E) : vs.length = 3 := by
  first | (obtain ⟨rfl, _⟩ := h; rfl) | (obtain ⟨_, rfl, _⟩ := h; rfl) | (obtain ⟨_, _, rfl, _⟩ := h; rfl) | (obtain ⟨_, _, _, rfl, _⟩ := h; rfl) | (obtain ⟨_, _, _, _, rfl, _⟩ := h; rfl) | (obtain ⟨_, _, _, _, _, rfl, _⟩ := h; rfl) | (obtain ⟨_, _, _, _, _, _, rfl, _⟩ := h; rfl) | (obtain ⟨_, _, _, _, _, _, _, rfl, _⟩ := h; rfl) | (obtain ⟨_, _, _, _, _, _, _, _, rfl, _⟩ := h; rfl) | (obtain ⟨_, _, _, _, _, _, _, _, _, rfl, _⟩ := h; rfl) | (obtain ⟨_, _, _, _, _, _, _, _, _, _, rfl, _⟩ := h; rfl) | (obtain ⟨_, _, _, _, _, _, _, _, _, _, _, rfl, _⟩ := h; rfl) | (obtain ⟨_, _, _, _, _, _, _, _, _, _, _, _, rfl, _⟩ := h; rfl) | (obtain ⟨_, _, _, _, _, _, _, _, _, _, _, _, _, rfl, _⟩ := h; rfl)
/-! ### _law_counted -/
def sp_law_counted (K : PySem.W.Frag) : Sp := fun vs H Q _ => ∃ (p : Addr) (s e z a b : Int), vs = [.ref p, .int z, .int a, .int b] ∧ H p = some (.lst (marksI s ((e - s) % 1440).toNat)) ∧ QOk s e ∧ -1439 ≤ z ∧ z ≤ 1439 ∧ -11000000000000 ≤ a ∧ a ≤ 11000000000000 ∧ -12000000000000 ≤ b ∧ b ≤ 12000000000000 ∧ Q (.int (countF (some (s, e)) (a + z) (b + z))) H
theorem sp_counted_use {K : PySem.W.Frag} {H : Hp} {Q : VK} {E : XK} {p : Addr} {s e z a b : Int} (hp : H p = some (.lst (marksI s ((e - s) % 1440).toNat))) (o : QOk s e) (z0 : -1439 ≤ z) (z1 : z ≤ 1439) (a0 : -11000000000000 ≤ a) (a1 : a ≤ 11000000000000) (b0 : -12000000000000 ≤ b) (b1 : b ≤ 12000000000000) (q : Q (.int (countF (some (s, e)) (a + z) (b + z))) H) : sp_law_counted K [.ref p, .int z, .int a, .int b] H Q E := ⟨_, _, _, _, _, _, rfl, hp, o, z0, z1, a0, a1, b0, b1, q⟩
local macro_rules | `(tactic| kas_types) => `(tactic| ((with_reducible refine' sp_counted_use ?h ?o ?a ?b ?c ?d ?e ?f ?_); (case h => kcj_m); (case o => assumption); (case a => omega); (case b => omega); (case c => omega); (case d => omega); (case e => omega); (case f => omega)))
def t_law_counted (K : PySem.W.Frag) : TS :=
  (tSeq (tIfS (tTest (tOp (rI0 fun i j => .bl (decide (i ≤ j))) (tVar 3) (tVar 2))) (tRet (tC (.int 0))) tNext)
    (tSeq (tAsg (tOp (rI CMul fun i j => .int (i * j)) (tOp (rI CDiv fun i j => .int (i / j)) (tOp (rI0 fun i j => .int (i - j)) (tVar 3) (tVar 2)) (tC (.int 1440))) (tCB (rSum K) (tCons (tVar 0) tNil))) (gName 4))
    (tSeq (tFor (iRng2 (tCons (tOp (rI0 fun i j => .int (i + j)) (tVar 2) (tOp (rI CMul fun i j => .int (i * j)) (tOp (rI CDiv fun i j => .int (i / j)) (tOp (rI0 fun i j => .int (i - j)) (tVar 3) (tVar 2)) (tC (.int 1440))) (tC (.int 1440)))) (tCons (tVar 3) tNil))) (gName 5)
    (tAsg (tOp (rI0 fun i j => .int (i + j)) (tVar 4) (tOp (rIx K) (tVar 0) (tOp (rI (fun _ j => 0 < j) fun i j => .int (i % j)) (tOp (rI0 fun i j => .int (i + j)) (tVar 5) (tVar 1)) (tC (.int 1440))))) (gName 4)))
    (tRet (tVar 4)))))
theorem run_law_counted {K : PySem.W.Frag} {vs : List V} {H : Hp} {Q : VK} {E : XK} (h : sp_law_counted K vs H Q E) : t_law_counted K (Ends.mk (fun _ H' => Q .non H') Q (fun _ _ => False) (fun _ _ => False)) (start ["_law_marks_here", "_law_zone", "_law_one", "_law_other_here", "_law_found", "_law_moment_here"] vs) H := by
  obtain ⟨p, s, e, z, a, b, rfl, hp, o, z0, z1, a0, a1, b0, b1, q⟩ := h
  have hL0 : 0 ≤ (e - s) % 1440 := by omega
  have hL1 : (e - s) % 1440 < 1440 := by omega
  unfold t_law_counted
  k_ownIn
  keq_rows
  · intro hle
    k_ownIn
    have e1 : countF (some (s, e)) (a + z) (b + z) = 0 := by unfold countF; exact if_pos (by omega)
    rw [e1] at q
    exact q
  · intro hle
    k_ownIn
    refine r_sum (SqL.of hp) ?_
    rw [marks_sum o]
    k_ownIn
    refine r_loopR2 (fun i σ' H' => (∃ v : Option V, σ' = [some (.ref p), some (.int z), some (.int a), some (.int b), some (.int ((b - a) / 1440 * ((e - s) % 1440) + (qF s e (a + (b - a) / 1440 * 1440 + z + i) - qF s e (a + (b - a) / 1440 * 1440 + z)))), v]) ∧ H' = H) ⟨by omega, by omega, by omega, by omega⟩ ⟨⟨none, ?_⟩, rfl⟩ ?_ ?_
    · have e1 : qF s e (a + (b - a) / 1440 * 1440 + z + ((0 : Nat) : Int)) - qF s e (a + (b - a) / 1440 * 1440 + z) = 0 := by
        rw [show a + (b - a) / 1440 * 1440 + z + ((0 : Nat) : Int) = a + (b - a) / 1440 * 1440 + z by omega]; omega
      rw [e1, Int.add_zero]
      rfl
    · rintro i σ' H' N hi ⟨⟨v, rfl⟩, rfl⟩ hN
      have n0 : 0 ≤ (a + (b - a) / 1440 * 1440 + (i : Int) + z) % 1440 := by omega
      have n1 : (a + (b - a) / 1440 * 1440 + (i : Int) + z) % 1440 < 1440 := by omega
      have nn : (((a + (b - a) / 1440 * 1440 + (i : Int) + z) % 1440).toNat : Int) = (a + (b - a) / 1440 * 1440 + (i : Int) + z) % 1440 := by omega
      have hmk := marksI_at s ((e - s) % 1440).toNat (n := ((a + (b - a) / 1440 * 1440 + (i : Int) + z) % 1440).toNat) (by omega)
      rw [mI_q, nn] at hmk
      k_ownIn
      refine r_ixL (SqL.of hp) (ix_some nn.symm hmk) ?_
      k_ownIn
      refine hN _ _ ⟨⟨some (.int (a + (b - a) / 1440 * 1440 + (i : Int))), ?_⟩, rfl⟩
      have e1 := qF_step o (a + (b - a) / 1440 * 1440 + z + (i : Int))
      rw [show a + (b - a) / 1440 * 1440 + z + (i : Int) + 1 = a + (b - a) / 1440 * 1440 + z + ((i + 1 : Nat) : Int) by omega] at e1
      rw [e1, show a + (b - a) / 1440 * 1440 + z + (i : Int) = a + (b - a) / 1440 * 1440 + (i : Int) + z by omega]
      have e2 : ∀ x y w u : Int, x + (y + u - w) = x + (y - w) + u := by intros; omega
      rw [e2]
      rfl
    · rintro σ' H' ⟨⟨v, rfl⟩, rfl⟩
      k_ownIn
      have e1 : countF (some (s, e)) (a + z) (b + z) = qF s e (b + z) - qF s e (a + z) := by unfold countF; exact if_neg (by omega)
      have e2 := qF_days s e (a + z) ((b - a) / 1440)
      have e3 : a + (b - a) / 1440 * 1440 + z = a + z + 1440 * ((b - a) / 1440) := by omega
      have e4 : a + (b - a) / 1440 * 1440 + z + (((b - (a + (b - a) / 1440 * 1440)).toNat : Nat) : Int) = b + z := by omega
      rw [e4, e3, e2]
      rw [e1] at q
      have e5 : ∀ x y w : Int, x + (y - (w + x)) = y - w := by intros; omega
      rw [e5]
      exact q
theorem len_law_counted {K : PySem.W.Frag} {vs : List V} {H : Hp} {Q : VK} {E : XK} (h : sp_law_counted K vs H Q E) : vs.length = 4 := by
  first | (obtain ⟨rfl, _⟩ := h; rfl) | (obtain ⟨_, rfl, _⟩ := h; rfl) | (obtain ⟨_, _, rfl, _⟩ := h; rfl) | (obtain ⟨_, _, _, rfl, _⟩ := h; rfl) | (obtain ⟨_, _, _, _, rfl, _⟩ := h; rfl) | (obtain ⟨_, _, _, _, _, rfl, _⟩ := h; rfl) | (obtain ⟨_, _, _, _, _, _, rfl, _⟩ := h; rfl) | (obtain ⟨_, _, _, _, _, _, _, rfl, _⟩ := h; rfl) | (obtain ⟨_, _, _, _, _, _, _, _, rfl, _⟩ := h; rfl) | (obtain ⟨_, _, _, _, _, _, _, _, _, rfl, _⟩ := h; rfl) | (obtain ⟨_, _, _, _, _, _, _, _, _, _, rfl, _⟩ := h; rfl) | (obtain ⟨_, _, _, _, _, _, _, _, _, _, _, rfl, _⟩ := h; rfl) | (obtain ⟨_, _, _, _, _, _, _, _, _, _, _, _, rfl, _⟩ := h; rfl) | (obtain ⟨_, _, _, _, _, _, _, _, _, _, _, _, _, rfl, _⟩ := h; rfl)
/-! ### law -/
def sp_law (K : PySem.W.Frag) : Sp := fun vs H Q _ => ∃ (a : Addr) (ns : List Int), vs = [.ref a] ∧ SqL K H a (ns.map V.int) ∧ ns.length ≤ 63 ∧ ∀ H', Q (.bl true) H'
def t_law (K : PySem.W.Frag) : TS :=
  (tSeq (tAsg (tCall (sp_law_well K) [] E0 (tCons (tCall (sp_law_cell_at K) [] E0 (tCons (tVar 0) (tCons (tC (.int 0)) tNil))) tNil)) (gName 1))
    (tSeq (tAsg (tOp (rIx K) (tLst (tCons (tC (.int 0)) (tCons (tC (.int 1439)) (tCons (tUn (rU fun i => .int (-i)) (tC (.int 1439))) (tCons (tOp (rI0 fun i j => .int (i - j)) (tCall (sp_law_draw K) [] E0 (tCons (tVar 1) (tCons (tC (.int 2879)) tNil))) (tC (.int 1439))) tNil))))) (tCall (sp_law_draw K) [] E0 (tCons (tVar 1) (tCons (tC (.int 4)) tNil)))) (gName 2))
    (tSeq (tAsg (tCall (sp_law_quiet K) [] E0 (tCons (tVar 1) tNil)) (gName 3))
    (tSeq (tAsg (tCall (sp_law_marks K) [] E0 (tCons (tVar 3) tNil)) (gName 4))
    (tSeq (tFor (iList K (tOp rCat (tLst (tCons (tCall (sp_law_cell_at K) [] E0 (tCons (tVar 0) (tCons (tC (.int 1)) tNil))) tNil)) (tSl (rSlL K) (tVar 0) (tPart (tC (.int 2))) (tPart (tC (.int 7)))))) (gName 5)
    (tSeq (tAsg (tCall (sp_law_well K) [] E0 (tCons (tVar 5) tNil)) (gName 1))
    (tSeq (tAsg (tCall (sp_law_moment K) [] E0 (tCons (tVar 1) (tCons (tVar 2) (tCons (tVar 3) tNil)))) (gName 6))
    (tSeq (tAsg (tCall (sp_loud_from K) [] E0 (tCons (tVar 3) (tCons (tVar 2) (tCons (tVar 6) tNil)))) (gName 7))
    (tSeq (tIfS (tOr (tNot (tB (tCall (sp_law_whole K) [] E0 (tCons (tVar 7) tNil)))) (tOr (tTest (tOp rNe (tVar 7) (tCall (sp_law_loud K) [] E0 (tCons (tVar 4) (tCons (tVar 2) (tCons (tVar 6) tNil)))))) (tTest (tOp rNe (tCall (sp_loud_from K) [] E0 (tCons (tC .non) (tCons (tVar 2) (tCons (tVar 6) tNil)))) (tVar 6))))) (tRet (tC (.bl false))) tNext)
    (tSeq (tAsg (tCall (sp_law_other K) [] E0 (tCons (tVar 1) (tCons (tVar 2) (tCons (tVar 3) (tCons (tVar 6) tNil))))) (gName 8))
    (tSeq (tAsg (tCall (sp_quiet_count K) [] E0 (tCons (tVar 3) (tCons (tVar 2) (tCons (tVar 6) (tCons (tVar 8) tNil))))) (gName 7))
    (tSeq (tIfS (tOr (tNot (tB (tCall (sp_law_whole K) [] E0 (tCons (tVar 7) tNil)))) (tTest (tOp rNe (tVar 7) (tCall (sp_law_counted K) [] E0 (tCons (tVar 4) (tCons (tVar 2) (tCons (tVar 6) (tCons (tVar 8) tNil)))))))) (tRet (tC (.bl false))) tNext)
    (tSeq (tIfS (tOr (tTest (tOp rNe (tCall (sp_quiet_count K) [] E0 (tCons (tC .non) (tCons (tVar 2) (tCons (tVar 6) (tCons (tVar 8) tNil))))) (tC (.int 0)))) (tTest (tOp rNe (tCall (sp_quiet_count K) [] E0 (tCons (tVar 3) (tCons (tVar 2) (tCons (tVar 6) (tCons (tVar 6) tNil))))) (tC (.int 0))))) (tRet (tC (.bl false))) tNext)
    (tSeq (tAsg (tOp (rI0 fun i j => .int (i + j)) (tVar 6) (tCall (sp_law_draw K) [] E0 (tCons (tVar 1) (tCons (tCB rMax2 (tCons (tC (.int 1)) (tCons (tOp (rI0 fun i j => .int (i - j)) (tVar 8) (tVar 6)) tNil))) tNil)))) (gName 9))
    (tSeq (tAsg (tLst (tCons (tCall (sp_quiet_count K) [] E0 (tCons (tVar 3) (tCons (tVar 2) (tCons (tVar 6) (tCons (tVar 9) tNil))))) (tCons (tCall (sp_quiet_count K) [] E0 (tCons (tVar 3) (tCons (tVar 2) (tCons (tVar 9) (tCons (tVar 8) tNil))))) tNil))) (gName 10))
    (tIfS (tAnd (tTest (tOp (rI0 fun i j => .bl (decide (j < i))) (tVar 8) (tVar 6))) (tTest (tOp rNe (tCB (rSum K) (tCons (tVar 10) tNil)) (tVar 7)))) (tRet (tC (.bl false))) tNext))))))))))))
    (tRet (tC (.bl true))))))))
theorem run_law {K : PySem.W.Frag} {vs : List V} {H : Hp} {Q : VK} {E : XK} (h : sp_law K vs H Q E) : t_law K (Ends.mk (fun _ H' => Q .non H') Q (fun _ _ => False) (fun _ _ => False)) (start ["_law_script", "_law_well_here", "_law_zone", "_law_quiet_here", "_law_marks_here", "_law_cell", "_law_one", "_law_found", "_law_other_here", "_law_amid", "_law_parts"] vs) H := by
  obtain ⟨a, ns, rfl, hS, hlen, q⟩ := h
  unfold t_law
  k_ownIn
  refine r_ixA (fun x => ∃ z : Int, x = .int z ∧ -1439 ≤ z ∧ z ≤ 1439) (by k_places) (by omega) (by simp only [List.length]; omega) ?_ ?_
  · intro x hx
    simp only [List.mem_cons, List.not_mem_nil, or_false] at hx
    rcases hx with rfl | rfl | rfl | rfl <;> exact ⟨_, rfl, by omega, by omega⟩
  · rintro x ⟨z, rfl, z0, z1⟩
    k_ownIn
    rename_i s e w2 t Hq s0 s1 e0 e1 ne hlw kq ht pm Hm hpm sm hqm p2 hp2 p1 hp1 pc hpc
    have hT : (upd (upd (upd Hm p2 (.lst [.int (cellAt ns (Int.toNat 1))])) p1 (.lst (cutV (ns.map V.int) (some 2) (some 7)))) pc (.lst ([.int (cellAt ns (Int.toNat 1))] ++ cutV (ns.map V.int) (some 2) (some 7)))) t = some (.tup [.int s, .int e]) := by kcj_m
    have hM : (upd (upd (upd Hm p2 (.lst [.int (cellAt ns (Int.toNat 1))])) p1 (.lst (cutV (ns.map V.int) (some 2) (some 7)))) pc (.lst ([.int (cellAt ns (Int.toNat 1))] ++ cutV (ns.map V.int) (some 2) (some 7)))) pm = some (.lst (marksI s ((e - s) % 1440).toNat)) := by kcj_m
    have hC : SqL K (upd (upd (upd Hm p2 (.lst [.int (cellAt ns (Int.toNat 1))])) p1 (.lst (cutV (ns.map V.int) (some 2) (some 7)))) pc (.lst ([.int (cellAt ns (Int.toNat 1))] ++ cutV (ns.map V.int) (some 2) (some 7)))) pc ([.int (cellAt ns (Int.toNat 1))] ++ cutV (ns.map V.int) (some 2) (some 7)) := SqL.of upd_same
    generalize upd (upd (upd Hm p2 _) p1 _) pc _ = H1 at hT hM hC
    have o : QOk s e := ⟨s0, s1, e0, e1, ne⟩
    have hQ : QtOk H1 (.ref t) (some (s, e)) := .inr ⟨t, s, e, rfl, hT, rfl, s0, s1, e0, e1, ne⟩
    refine r_loopL (fun i σ' H' => (∃ v0 v1 v2 v3 v4 v5 v6 : Option V, σ' = [some (.ref a), v0, some (.int z), some (.ref t), some (.ref pm), v1, v2, v3, v4, v5, v6]) ∧ Same H1 H') hC ⟨⟨_, _, _, _, _, _, _, rfl⟩, Same.refl _⟩ (fun i σ' H' p => Same.seq p.2 hC) ?_ ?_
    · rintro i x σ' H' N hx ⟨⟨v0, v1, v2, v3, v4, v5, v6, rfl⟩, hs⟩ hN
      obtain ⟨c, rfl⟩ := cells_int (List.mem_of_getElem? hx)
      k_ownIn
      rename_i pw hpw ww m wm Hw mb0 mb1 hww kw Hf sf
      kpt_turns
      k_ownIn
      refine ite_ny (by rw [loudF_none]; omega) ?_
      k_ownIn
      rename_i Hf2 sf2 b wm2 Hw2 mc0 mc1 hww2 kw2 Hf3 sf3 hp3
      kpt_turns
      k_ownIn
      refine ite_ny rfl ?_
      k_ownIn
      refine ite_ny (by rw [countF_le (Int.le_refl _)]; omega) ?_
      k_ownIn
      rename_i f wf f0 f1 H7 s7 H8 s8 pl hpl
      kpt_turns
      k_ownIn
      refine ite_d (fun hlt => ?_) (fun hlt => ?_)
      · k_ownIn
        refine r_sum (ns := [_, _]) (SqL.of upd_same) ?_
        k_ownIn
        have g1 : f < b - m := by split at f1 <;> omega
        refine ite_ny (by
          rw [countF_le (by omega), countF_le (by omega), countF_le (by omega)]
          simp only [List.sum_cons, List.sum_nil]
          omega) ?_
        k_ownIn
        exact hN _ _ ⟨⟨_, _, _, _, _, _, _, rfl⟩, Same.ofKp hs hpw (by k_subL)⟩
      · k_ownIn
        exact hN _ _ ⟨⟨_, _, _, _, _, _, _, rfl⟩, Same.ofKp hs hpw (by k_subL)⟩
    · rintro σ' H' ⟨⟨v0, v1, v2, v3, v4, v5, v6, rfl⟩, hs⟩
      k_ownIn
      exact q _
theorem len_law {K : PySem.W.Frag} {vs : List V} {H : Hp} {Q : VK} {E : XK} (h : sp_law K vs H Q E) : vs.length = 1 := by
  first | (obtain ⟨rfl, _⟩ := h; rfl) | (obtain ⟨_, rfl, _⟩ := h; rfl) | (obtain ⟨_, _, rfl, _⟩ := h; rfl) | (obtain ⟨_, _, _, rfl, _⟩ := h; rfl) | (obtain ⟨_, _, _, _, rfl, _⟩ := h; rfl) | (obtain ⟨_, _, _, _, _, rfl, _⟩ := h; rfl) | (obtain ⟨_, _, _, _, _, _, rfl, _⟩ := h; rfl) | (obtain ⟨_, _, _, _, _, _, _, rfl, _⟩ := h; rfl) | (obtain ⟨_, _, _, _, _, _, _, _, rfl, _⟩ := h; rfl) | (obtain ⟨_, _, _, _, _, _, _, _, _, rfl, _⟩ := h; rfl) | (obtain ⟨_, _, _, _, _, _, _, _, _, _, rfl, _⟩ := h; rfl) | (obtain ⟨_, _, _, _, _, _, _, _, _, _, _, rfl, _⟩ := h; rfl) | (obtain ⟨_, _, _, _, _, _, _, _, _, _, _, _, rfl, _⟩ := h; rfl) | (obtain ⟨_, _, _, _, _, _, _, _, _, _, _, _, _, rfl, _⟩ := h; rfl)
section
variable {P : Program} {w : World} {K : PySem.W.Frag} {mg : Str → Option Value} {base : Heap}
theorem sc_law_well : FnScope ["_law_cell"] ["_law_cell"] (defScope s_law_well) := ⟨rfl, rfl, rfl, by decide +kernel, rfl, by decide +kernel, by decide +kernel⟩
theorem okA_law_well (Z : Env K mg) {fd : FuncData} (F : FunD K d_law_well.name d_law_well.qual d_law_well.params d_law_well.body d_law_well.scope (d_law_well.dvs K) (d_law_well.kws K) (fAd K d_law_well.at_) fd) : FnOk P w K mg base CX0 1 (ga K "_law_well") fd ["_law_cell"] (sp_law_well K) := by
  refine F.ok sc_law_well (fun vs H Q E h => len_law_well h) (fun cdv A outer s H vs Q E hr h => ⟨t_law_well K, PSs.nox ?_, run_law_well h⟩)
  exact (pss_one (ps_ret (pe_lst (pa_cons (pe_op op_fdiv (pv 0) pe_int) (pa_cons (pe_op op_mod (pv 0) pe_int) (pa_cons (pe_op op_mod (pv 0) pe_int) (pa_cons pe_int pa_nil)))))))
theorem ok_law_well (Z : Env K mg) : ∃ fd, FnOk P w K mg base CX0 1 (ga K "_law_well") fd ["_law_cell"] (sp_law_well K) ∧ Binds K fd ["_law_cell"] [] ∧ PySem.W.keepIn K (.ref (ga K "_law_well")) = true := by
  obtain ⟨fd, F⟩ := Z.c.def_ 0 (d := d_law_well) rfl
  exact ⟨fd, okA_law_well Z F, F.bindsN fun _ _ _ _ _ _ us hl => match us, hl with | [_], _ => rfl, F.kp⟩
theorem sc_law_mixed : FnScope ["_law_cell", "_law_k", "_law_number"] ["_law_cell", "_law_k"] (defScope s_law_mixed) := ⟨rfl, rfl, rfl, by decide +kernel, rfl, by decide +kernel, by decide +kernel⟩
theorem okA_law_mixed (Z : Env K mg) {fd : FuncData} (F : FunD K d_law_mixed.name d_law_mixed.qual d_law_mixed.params d_law_mixed.body d_law_mixed.scope (d_law_mixed.dvs K) (d_law_mixed.kws K) (fAd K d_law_mixed.at_) fd) : FnOk P w K mg base CX0 1 (ga K "_law_mixed") fd ["_law_cell", "_law_k"] (sp_law_mixed K) := by
  refine F.ok sc_law_mixed (fun vs H Q E h => len_law_mixed h) (fun cdv A outer s H vs Q E hr h => ⟨t_law_mixed K, PSs.nox ?_, run_law_mixed h⟩)
  exact (pss_cons (ps_set (i := 2) sc_law_mixed.nd rfl (Or.inl rfl) (pe_op op_mod (pe_op op_mul (pe_op op_add (pe_op op_add (pv 0) (pe_op op_mul pe_int (pv 1))) pe_int) pe_int) pe_int))
    (pss_cons (ps_set (i := 2) sc_law_mixed.nd rfl (Or.inl rfl) (pe_op op_mod (pe_op op_mul (pv 2) (pe_op op_add (pe_op op_fdiv (pv 2) pe_int) pe_int)) pe_int))
    (pss_one (ps_ret (pe_op op_mod (pe_op op_mul (pv 2) (pe_op op_add (pe_op op_add (pe_op op_fdiv (pv 2) pe_int) pe_int) (pv 1))) pe_int)))))
theorem ok_law_mixed (Z : Env K mg) : ∃ fd, FnOk P w K mg base CX0 1 (ga K "_law_mixed") fd ["_law_cell", "_law_k"] (sp_law_mixed K) ∧ Binds K fd ["_law_cell", "_law_k"] [] ∧ PySem.W.keepIn K (.ref (ga K "_law_mixed")) = true := by
  obtain ⟨fd, F⟩ := Z.c.def_ 1 (d := d_law_mixed) rfl
  exact ⟨fd, okA_law_mixed Z F, F.bindsN fun _ _ _ _ _ _ us hl => match us, hl with | [_, _], _ => rfl, F.kp⟩
theorem sc_law_draw : FnScope ["_law_well_here", "_law_most", "_law_found", "_law_turn"] ["_law_well_here", "_law_most"] (defScope s_law_draw) := ⟨rfl, rfl, rfl, by decide +kernel, rfl, by decide +kernel, by decide +kernel⟩
theorem okA_law_draw (Z : Env K mg) {fd : FuncData} (F : FunD K d_law_draw.name d_law_draw.qual d_law_draw.params d_law_draw.body d_law_draw.scope (d_law_draw.dvs K) (d_law_draw.kws K) (fAd K d_law_draw.at_) fd) : FnOk P w K mg base CX0 2 (ga K "_law_draw") fd ["_law_well_here", "_law_most"] (sp_law_draw K) := by
  obtain ⟨fd_law_mixed, G_law_mixed, b_law_mixed, k_law_mixed⟩ := ok_law_mixed (P := P) (w := w) (base := base) Z
  have g__law_mixed := Z.glo 0 (x := "_law_mixed") rfl
  have z_int := Z.free 1 (x := "int") rfl
  have z_range := Z.free 2 (x := "range") rfl
  refine F.ok sc_law_draw (fun vs H Q E h => len_law_draw h) (fun cdv A outer s H vs Q E hr h => ⟨t_law_draw K, PSs.nox ?_, run_law_draw h⟩)
  exact (pss_cons (ps_if (PW.pt (pw_and (pt_cmpR op_eq (pe_ix ix_seq (pv 0) pe_int (fun _ _ => rfl)) pe_int (nomark _)) (pw_and1 (pt_cmpR op_gt (pe_ix ix_seq (pv 0) pe_int (fun _ _ => rfl)) pe_int (nomark _))))) (pss_cons (ps_set (i := 2) sc_law_draw.nd rfl (Or.inl rfl) (pe_op op_mod (pe_ix ix_seq (pv 0) pe_int (fun _ _ => rfl)) (pv 1)))
    (pss_cons (ps_asg (pe_op op_fdivW (pe_ix ix_seq (pv 0) pe_int (fun _ _ => rfl)) (pv 1)) (pg_sub (pv 0) pe_int set_list))
    (pss_one (ps_ret (pv 2))))) pss_nil)
    (pss_cons (ps_set (i := 2) sc_law_draw.nd rfl (Or.inl rfl) pe_int)
    (pss_cons (ps_for PassesOwn.never rfl (pi_range1 rfl z_range (pa_cons (pe_op op_add pe_int (pe_op op_mul pe_int (pe_callTy call_int1 (by rfl) z_int (by decide +kernel) (pa_cons (pe_cmpR op_gt (pv 1) (pe_pow2 (r := 1000000) (by decide) ⟨by decide, by decide, by decide⟩) (nomark _)) pa_nil)))) pa_nil)) (pg_name (i := 3) sc_law_draw.nd rfl (Or.inl rfl))
    (pss_cons (ps_asg (pe_op op_add (pe_ix ix_seq (pv 0) pe_int (fun _ _ => rfl)) pe_int) (pg_sub (pv 0) pe_int set_list))
    (pss_one (ps_set (i := 2) sc_law_draw.nd rfl (Or.inl rfl) (pe_op op_add (pe_op op_mul (pv 2) pe_int) (pe_call G_law_mixed (hr.mono (by decide)) rfl g__law_mixed k_law_mixed b_law_mixed .nil pass0 (pa_cons (pe_ix ix_seq (pv 0) pe_int (fun _ _ => rfl)) (pa_cons (pe_ix ix_seq (pv 0) pe_int (fun _ _ => rfl)) pa_nil))))))))
    (pss_one (ps_ret (pe_op op_mod (pv 2) (pv 1)))))))
theorem ok_law_draw (Z : Env K mg) : ∃ fd, FnOk P w K mg base CX0 2 (ga K "_law_draw") fd ["_law_well_here", "_law_most"] (sp_law_draw K) ∧ Binds K fd ["_law_well_here", "_law_most"] [] ∧ PySem.W.keepIn K (.ref (ga K "_law_draw")) = true := by
  obtain ⟨fd, F⟩ := Z.c.def_ 2 (d := d_law_draw) rfl
  exact ⟨fd, okA_law_draw Z F, F.bindsN fun _ _ _ _ _ _ us hl => match us, hl with | [_, _], _ => rfl, F.kp⟩
theorem sc_law_quiet : FnScope ["_law_well_here", "_law_start", "_law_far"] ["_law_well_here"] (defScope s_law_quiet) := ⟨rfl, rfl, rfl, by decide +kernel, rfl, by decide +kernel, by decide +kernel⟩
theorem okA_law_quiet (Z : Env K mg) {fd : FuncData} (F : FunD K d_law_quiet.name d_law_quiet.qual d_law_quiet.params d_law_quiet.body d_law_quiet.scope (d_law_quiet.dvs K) (d_law_quiet.kws K) (fAd K d_law_quiet.at_) fd) : FnOk P w K mg base CX0 3 (ga K "_law_quiet") fd ["_law_well_here"] (sp_law_quiet K) := by
  obtain ⟨fd_law_draw, G_law_draw, b_law_draw, k_law_draw⟩ := ok_law_draw (P := P) (w := w) (base := base) Z
  have g__law_draw := Z.glo 3 (x := "_law_draw") rfl
  refine F.ok sc_law_quiet (fun vs H Q E h => len_law_quiet h) (fun cdv A outer s H vs Q E hr h => ⟨t_law_quiet K, PSs.nox ?_, run_law_quiet h⟩)
  exact (pss_cons (ps_set (i := 1) sc_law_quiet.nd rfl (Or.inl rfl) (pe_ix ix_seq (pe_lst (pa_cons pe_int (pa_cons pe_int (pa_cons (pe_call G_law_draw (hr.mono (by decide)) rfl g__law_draw k_law_draw b_law_draw .nil pass0 (pa_cons (pv 0) (pa_cons pe_int pa_nil))) (pa_cons (pe_call G_law_draw (hr.mono (by decide)) rfl g__law_draw k_law_draw b_law_draw .nil pass0 (pa_cons (pv 0) (pa_cons pe_int pa_nil))) pa_nil))))) (pe_call G_law_draw (hr.mono (by decide)) rfl g__law_draw k_law_draw b_law_draw .nil pass0 (pa_cons (pv 0) (pa_cons pe_int pa_nil))) (fun _ _ => rfl)))
    (pss_cons (ps_set (i := 2) sc_law_quiet.nd rfl (Or.inl rfl) (pe_ix ix_seq (pe_lst (pa_cons pe_int (pa_cons pe_int (pa_cons (pe_op op_add pe_int (pe_call G_law_draw (hr.mono (by decide)) rfl g__law_draw k_law_draw b_law_draw .nil pass0 (pa_cons (pv 0) (pa_cons pe_int pa_nil)))) (pa_cons (pe_op op_add pe_int (pe_call G_law_draw (hr.mono (by decide)) rfl g__law_draw k_law_draw b_law_draw .nil pass0 (pa_cons (pv 0) (pa_cons pe_int pa_nil)))) pa_nil))))) (pe_call G_law_draw (hr.mono (by decide)) rfl g__law_draw k_law_draw b_law_draw .nil pass0 (pa_cons (pv 0) (pa_cons pe_int pa_nil))) (fun _ _ => rfl)))
    (pss_one (ps_ret (pe_tup (pa_cons (pv 1) (pa_cons (pe_op op_mod (pe_op op_add (pv 1) (pv 2)) pe_int) pa_nil)))))))
theorem ok_law_quiet (Z : Env K mg) : ∃ fd, FnOk P w K mg base CX0 3 (ga K "_law_quiet") fd ["_law_well_here"] (sp_law_quiet K) ∧ Binds K fd ["_law_well_here"] [] ∧ PySem.W.keepIn K (.ref (ga K "_law_quiet")) = true := by
  obtain ⟨fd, F⟩ := Z.c.def_ 3 (d := d_law_quiet) rfl
  exact ⟨fd, okA_law_quiet Z F, F.bindsN fun _ _ _ _ _ _ us hl => match us, hl with | [_], _ => rfl, F.kp⟩
theorem sc_law_marks : FnScope ["_law_quiet_here", "_law_marks_here", "_law_at"] ["_law_quiet_here"] (defScope s_law_marks) := ⟨rfl, rfl, rfl, by decide +kernel, rfl, by decide +kernel, by decide +kernel⟩
theorem okA_law_marks (Z : Env K mg) {fd : FuncData} (F : FunD K d_law_marks.name d_law_marks.qual d_law_marks.params d_law_marks.body d_law_marks.scope (d_law_marks.dvs K) (d_law_marks.kws K) (fAd K d_law_marks.at_) fd) : FnOk P w K mg base CX0 1 (ga K "_law_marks") fd ["_law_quiet_here"] (sp_law_marks K) := by
  refine F.ok sc_law_marks (fun vs H Q E h => len_law_marks h) (fun cdv A outer s H vs Q E hr h => ⟨t_law_marks K, PSs.nox ?_, run_law_marks h⟩)
  exact (pss_cons (ps_set (i := 1) sc_law_marks.nd rfl (Or.inl rfl) (pe_op op_rep (pe_lst (pa_cons pe_int pa_nil)) pe_int))
    (pss_cons (ps_set (i := 2) sc_law_marks.nd rfl (Or.inl rfl) (pe_ix ix_seq (pv 0) pe_int (fun _ _ => rfl)))
    (pss_cons (ps_while PassesOwn.never (pt_cmpR op_ne (pv 2) (pe_ix ix_seq (pv 0) pe_int (fun _ _ => rfl)) (nomark _))
    (pss_cons (ps_asg pe_int (pg_sub (pv 1) (pv 2) set_list))
    (pss_one (ps_set (i := 2) sc_law_marks.nd rfl (Or.inl rfl) (pe_op op_mod (pe_op op_add (pv 2) pe_int) pe_int)))))
    (pss_one (ps_ret (pv 1))))))
theorem ok_law_marks (Z : Env K mg) : ∃ fd, FnOk P w K mg base CX0 1 (ga K "_law_marks") fd ["_law_quiet_here"] (sp_law_marks K) ∧ Binds K fd ["_law_quiet_here"] [] ∧ PySem.W.keepIn K (.ref (ga K "_law_marks")) = true := by
  obtain ⟨fd, F⟩ := Z.c.def_ 4 (d := d_law_marks) rfl
  exact ⟨fd, okA_law_marks Z F, F.bindsN fun _ _ _ _ _ _ us hl => match us, hl with | [_], _ => rfl, F.kp⟩
theorem sc_law_cell_at : FnScope ["_law_script", "_law_k"] ["_law_script", "_law_k"] (defScope s_law_cell_at) := ⟨rfl, rfl, rfl, by decide +kernel, rfl, by decide +kernel, by decide +kernel⟩
theorem okA_law_cell_at (Z : Env K mg) {fd : FuncData} (F : FunD K d_law_cell_at.name d_law_cell_at.qual d_law_cell_at.params d_law_cell_at.body d_law_cell_at.scope (d_law_cell_at.dvs K) (d_law_cell_at.kws K) (fAd K d_law_cell_at.at_) fd) : FnOk P w K mg base CX0 1 (ga K "_law_cell_at") fd ["_law_script", "_law_k"] (sp_law_cell_at K) := by
  have z_len := Z.free 4 (x := "len") rfl
  refine F.ok sc_law_cell_at (fun vs H Q E h => len_law_cell_at h) (fun cdv A outer s H vs Q E hr h => ⟨t_law_cell_at K, PSs.nox ?_, run_law_cell_at h⟩)
  exact (pss_cons (ps_if (pt_cmpR op_lt (pv 1) (pe_callB call_len (by rfl) z_len (by decide +kernel) (pa_cons (pv 0) pa_nil)) (nomark _)) (pss_one (ps_ret (pe_ix ix_seq (pv 0) (pv 1) (fun _ _ => rfl)))) pss_nil)
    (pss_one (ps_ret pe_int)))
theorem ok_law_cell_at (Z : Env K mg) : ∃ fd, FnOk P w K mg base CX0 1 (ga K "_law_cell_at") fd ["_law_script", "_law_k"] (sp_law_cell_at K) ∧ Binds K fd ["_law_script", "_law_k"] [] ∧ PySem.W.keepIn K (.ref (ga K "_law_cell_at")) = true := by
  obtain ⟨fd, F⟩ := Z.c.def_ 5 (d := d_law_cell_at) rfl
  exact ⟨fd, okA_law_cell_at Z F, F.bindsN fun _ _ _ _ _ _ us hl => match us, hl with | [_, _], _ => rfl, F.kp⟩
theorem sc_law_moment : FnScope ["_law_well_here", "_law_zone", "_law_quiet_here", "_law_way", "_law_day"] ["_law_well_here", "_law_zone", "_law_quiet_here"] (defScope s_law_moment) := ⟨rfl, rfl, rfl, by decide +kernel, rfl, by decide +kernel, by decide +kernel⟩
theorem okA_law_moment (Z : Env K mg) {fd : FuncData} (F : FunD K d_law_moment.name d_law_moment.qual d_law_moment.params d_law_moment.body d_law_moment.scope (d_law_moment.dvs K) (d_law_moment.kws K) (fAd K d_law_moment.at_) fd) : FnOk P w K mg base CX0 3 (ga K "_law_moment") fd ["_law_well_here", "_law_zone", "_law_quiet_here"] (sp_law_moment K) := by
  obtain ⟨fd_law_draw, G_law_draw, b_law_draw, k_law_draw⟩ := ok_law_draw (P := P) (w := w) (base := base) Z
  have g__law_draw := Z.glo 3 (x := "_law_draw") rfl
  refine F.ok sc_law_moment (fun vs H Q E h => len_law_moment h) (fun cdv A outer s H vs Q E hr h => ⟨t_law_moment K, PSs.nox ?_, run_law_moment h⟩)
  exact (pss_cons (ps_set (i := 3) sc_law_moment.nd rfl (Or.inl rfl) (pe_call G_law_draw (hr.mono (by decide)) rfl g__law_draw k_law_draw b_law_draw .nil pass0 (pa_cons (pv 0) (pa_cons pe_int pa_nil))))
    (pss_cons (ps_if (pt_cmpR op_eq (pv 3) pe_int (nomark _)) (pss_one (ps_ret (pe_op op_add (pe_op op_sub (pe_call G_law_draw (hr.mono (by decide)) rfl g__law_draw k_law_draw b_law_draw .nil pass0 (pa_cons (pv 0) (pa_cons (pe_op op_sub (pe_op op_mul pe_int (pe_pow2 (r := 10000000000000) (by decide) ⟨by decide, by decide, by decide⟩)) pe_int) pa_nil))) (pe_pow2 (r := 10000000000000) (by decide) ⟨by decide, by decide, by decide⟩)) pe_int))) pss_nil)
    (pss_cons (ps_set (i := 4) sc_law_moment.nd rfl (Or.inl rfl) (pe_ix ix_seq (pe_lst (pa_cons (pe_op op_sub (pe_call G_law_draw (hr.mono (by decide)) rfl g__law_draw k_law_draw b_law_draw .nil pass0 (pa_cons (pv 0) (pa_cons pe_int pa_nil))) pe_int) (pa_cons (pe_op op_sub (pe_call G_law_draw (hr.mono (by decide)) rfl g__law_draw k_law_draw b_law_draw .nil pass0 (pa_cons (pv 0) (pa_cons (pe_pow2 (r := 1000000000) (by decide) ⟨by decide, by decide, by decide⟩) pa_nil))) (pe_op op_mul pe_int (pe_pow2 (r := 100000000) (by decide) ⟨by decide, by decide, by decide⟩))) pa_nil))) (pe_call G_law_draw (hr.mono (by decide)) rfl g__law_draw k_law_draw b_law_draw .nil pass0 (pa_cons (pv 0) (pa_cons pe_int pa_nil))) (fun _ _ => rfl)))
    (pss_one (ps_ret (pe_op op_sub (pe_op op_add (pe_op op_sub (pe_op op_add (pe_op op_mul (pv 4) pe_int) (pe_ix ix_seq (pv 2) (pv 3) (fun _ _ => rfl))) (pv 1)) (pe_call G_law_draw (hr.mono (by decide)) rfl g__law_draw k_law_draw b_law_draw .nil pass0 (pa_cons (pv 0) (pa_cons pe_int pa_nil)))) pe_int))))))
theorem ok_law_moment (Z : Env K mg) : ∃ fd, FnOk P w K mg base CX0 3 (ga K "_law_moment") fd ["_law_well_here", "_law_zone", "_law_quiet_here"] (sp_law_moment K) ∧ Binds K fd ["_law_well_here", "_law_zone", "_law_quiet_here"] [] ∧ PySem.W.keepIn K (.ref (ga K "_law_moment")) = true := by
  obtain ⟨fd, F⟩ := Z.c.def_ 6 (d := d_law_moment) rfl
  exact ⟨fd, okA_law_moment Z F, F.bindsN fun _ _ _ _ _ _ us hl => match us, hl with | [_, _, _], _ => rfl, F.kp⟩
theorem sc_is_whole : FnScope ["thing"] ["thing"] (defScope s_is_whole) := ⟨rfl, rfl, rfl, by decide +kernel, rfl, by decide +kernel, by decide +kernel⟩
theorem okA_is_whole (Z : Env K mg) {fd : FuncData} (F : FunD K d_is_whole.name d_is_whole.qual d_is_whole.params d_is_whole.body d_is_whole.scope (d_is_whole.dvs K) (d_is_whole.kws K) (fAd K d_is_whole.at_) fd) : FnOk P w K mg base CX0 1 (ga K "is_whole") fd ["thing"] (sp_is_whole K) := by
  have z_bool := Z.free 5 (x := "bool") rfl
  have z_int := Z.free 1 (x := "int") rfl
  have z_isinstance := Z.free 6 (x := "isinstance") rfl
  refine F.ok sc_is_whole (fun vs H Q E h => len_is_whole h) (fun cdv A outer s H vs Q E hr h => ⟨t_is_whole K, PSs.nox ?_, run_is_whole h⟩)
  exact (pss_one (ps_ret (pe_and (pe_callB call_isi (by rfl) z_isinstance (by decide +kernel) (pa_cons (pv 0) (pa_cons (pe_bltn (v := .ty "int") (by rfl) z_int (by decide +kernel) rfl) pa_nil))) (pe_one (pe_not (pe_callB call_isi (by rfl) z_isinstance (by decide +kernel) (pa_cons (pv 0) (pa_cons (pe_bltn (v := .ty "bool") (by rfl) z_bool (by decide +kernel) rfl) pa_nil))))))))
theorem ok_is_whole (Z : Env K mg) : ∃ fd, FnOk P w K mg base CX0 1 (ga K "is_whole") fd ["thing"] (sp_is_whole K) ∧ Binds K fd ["thing"] [] ∧ PySem.W.keepIn K (.ref (ga K "is_whole")) = true := by
  obtain ⟨fd, F⟩ := Z.c.def_ 7 (d := d_is_whole) rfl
  exact ⟨fd, okA_is_whole Z F, F.bindsN fun _ _ _ _ _ _ us hl => match us, hl with | [_], _ => rfl, F.kp⟩
theorem sc_is_between : FnScope ["thing", "low", "high"] ["thing", "low", "high"] (defScope s_is_between) := ⟨rfl, rfl, rfl, by decide +kernel, rfl, by decide +kernel, by decide +kernel⟩
theorem okA_is_between (Z : Env K mg) {fd : FuncData} (F : FunD K d_is_between.name d_is_between.qual d_is_between.params d_is_between.body d_is_between.scope (d_is_between.dvs K) (d_is_between.kws K) (fAd K d_is_between.at_) fd) : FnOk P w K mg base CX0 2 (ga K "is_between") fd ["thing", "low", "high"] (sp_is_between K) := by
  obtain ⟨fd_is_whole, G_is_whole, b_is_whole, k_is_whole⟩ := ok_is_whole (P := P) (w := w) (base := base) Z
  have g_is_whole := Z.glo 7 (x := "is_whole") rfl
  refine F.ok sc_is_between (fun vs H Q E h => len_is_between h) (fun cdv A outer s H vs Q E hr h => ⟨t_is_between K, PSs.nox ?_, run_is_between h⟩)
  exact (pss_one (ps_ret (pe_and (pe_call G_is_whole (hr.mono (by decide)) rfl g_is_whole k_is_whole b_is_whole .nil pass0 (pa_cons (pv 0) pa_nil)) (pe_one (pe_chain op_le op_le (pv 1) (pv 0) (pv 2))))))
theorem ok_is_between (Z : Env K mg) : ∃ fd, FnOk P w K mg base CX0 2 (ga K "is_between") fd ["thing", "low", "high"] (sp_is_between K) ∧ Binds K fd ["thing", "low", "high"] [] ∧ PySem.W.keepIn K (.ref (ga K "is_between")) = true := by
  obtain ⟨fd, F⟩ := Z.c.def_ 8 (d := d_is_between) rfl
  exact ⟨fd, okA_is_between Z F, F.bindsN fun _ _ _ _ _ _ us hl => match us, hl with | [_, _, _], _ => rfl, F.kp⟩
theorem sc_sure_quiet : FnScope ["quiet", "minute"] ["quiet"] (defScope s_sure_quiet) := ⟨rfl, rfl, rfl, by decide +kernel, rfl, by decide +kernel, by decide +kernel⟩
theorem okA_sure_quiet (Z : Env K mg) {fd : FuncData} (F : FunD K d_sure_quiet.name d_sure_quiet.qual d_sure_quiet.params d_sure_quiet.body d_sure_quiet.scope (d_sure_quiet.dvs K) (d_sure_quiet.kws K) (fAd K d_sure_quiet.at_) fd) : FnOk P w K mg base CX0 3 (ga K "sure_quiet") fd ["quiet"] (sp_sure_quiet K) := by
  obtain ⟨fd_is_between, G_is_between, b_is_between, k_is_between⟩ := ok_is_between (P := P) (w := w) (base := base) Z
  have g_is_between := Z.glo 8 (x := "is_between") rfl
  have z_all := Z.free 9 (x := "all") rfl
  have z_isinstance := Z.free 6 (x := "isinstance") rfl
  have z_len := Z.free 4 (x := "len") rfl
  have z_tuple := Z.free 10 (x := "tuple") rfl
  have g_DAY := Z.int 11 (x := "DAY") (i := 1440) rfl
  refine F.ok sc_sure_quiet (fun vs H Q E h => len_sure_quiet h) (fun cdv A outer s H vs Q E hr h => ⟨t_sure_quiet K, PSs.nox ?_, run_sure_quiet h⟩)
  exact (pss_cons (ps_if (pt_cmpR op_isN (pv 0) pe_non (nomark _)) (pss_one ps_retN) pss_nil)
    (pss_cons (ps_if (PW.pt (pw_or (pt_not (pt_val (pe_callB call_isi (by rfl) z_isinstance (by decide +kernel) (pa_cons (pv 0) (pa_cons (pe_bltn (v := .ty "tuple") (by rfl) z_tuple (by decide +kernel) rfl) pa_nil))))) (pw_or1 (pt_cmpR op_ne (pe_callB call_len (by rfl) z_len (by decide +kernel) (pa_cons (pv 0) pa_nil)) pe_int (nomark _))))) (pss_one ps_never) pss_nil)
    (pss_one (ps_if (PW.pt (pw_or (pt_not (pt_val (pe_callB (cr_all rfl) (by rfl) z_all (by decide +kernel) (pa_cons (pe_lc (own := [("minute", 1)]) (g := gName 1) (tt := tYes) rfl sc_sure_quiet.nd (pi_tup (pv 0)) (blkOk_by (own := [("minute", 1)]) (N := ["quiet", "minute"]) (sc := defScope s_sure_quiet) (by decide +kernel)) (fun _ _ _ _ _ => pg_name (i := 1) sc_sure_quiet.nd rfl (Or.inl rfl)) (fun _ _ _ _ _ => pts_nil) (fun _ _ _ _ _ => (pe_call G_is_between (hr.mono (by decide)) rfl g_is_between k_is_between b_is_between .nil pass0 (pa_cons (pv 1) (pa_cons pe_int (pa_cons (pe_op op_sub (pe_glob rfl (Classical.choose_spec g_DAY) ⟨_, rfl⟩) pe_int) pa_nil)))))) pa_nil)))) (pw_or1 (pt_cmpR op_eq (pe_ix ix_seq (pv 0) pe_int (fun _ _ => rfl)) (pe_ix ix_seq (pv 0) pe_int (fun _ _ => rfl)) (nomark _))))) (pss_one ps_never) pss_nil))))
theorem ok_sure_quiet (Z : Env K mg) : ∃ fd, FnOk P w K mg base CX0 3 (ga K "sure_quiet") fd ["quiet"] (sp_sure_quiet K) ∧ Binds K fd ["quiet"] [] ∧ PySem.W.keepIn K (.ref (ga K "sure_quiet")) = true := by
  obtain ⟨fd, F⟩ := Z.c.def_ 9 (d := d_sure_quiet) rfl
  exact ⟨fd, okA_sure_quiet Z F, F.bindsN fun _ _ _ _ _ _ us hl => match us, hl with | [_], _ => rfl, F.kp⟩
theorem sc_sure_zone : FnScope ["zone"] ["zone"] (defScope s_sure_zone) := ⟨rfl, rfl, rfl, by decide +kernel, rfl, by decide +kernel, by decide +kernel⟩
theorem okA_sure_zone (Z : Env K mg) {fd : FuncData} (F : FunD K d_sure_zone.name d_sure_zone.qual d_sure_zone.params d_sure_zone.body d_sure_zone.scope (d_sure_zone.dvs K) (d_sure_zone.kws K) (fAd K d_sure_zone.at_) fd) : FnOk P w K mg base CX0 3 (ga K "sure_zone") fd ["zone"] (sp_sure_zone K) := by
  obtain ⟨fd_is_between, G_is_between, b_is_between, k_is_between⟩ := ok_is_between (P := P) (w := w) (base := base) Z
  have g_is_between := Z.glo 8 (x := "is_between") rfl
  have g_DAY := Z.int 11 (x := "DAY") (i := 1440) rfl
  refine F.ok sc_sure_zone (fun vs H Q E h => len_sure_zone h) (fun cdv A outer s H vs Q E hr h => ⟨t_sure_zone K, PSs.nox ?_, run_sure_zone h⟩)
  exact (pss_one (ps_if (pt_not (pt_val (pe_call G_is_between (hr.mono (by decide)) rfl g_is_between k_is_between b_is_between .nil pass0 (pa_cons (pv 0) (pa_cons (pe_op op_sub pe_int (pe_glob rfl (Classical.choose_spec g_DAY) ⟨_, rfl⟩)) (pa_cons (pe_op op_sub (pe_glob rfl (Classical.choose_spec g_DAY) ⟨_, rfl⟩) pe_int) pa_nil)))))) (pss_one ps_never) pss_nil))
theorem ok_sure_zone (Z : Env K mg) : ∃ fd, FnOk P w K mg base CX0 3 (ga K "sure_zone") fd ["zone"] (sp_sure_zone K) ∧ Binds K fd ["zone"] [] ∧ PySem.W.keepIn K (.ref (ga K "sure_zone")) = true := by
  obtain ⟨fd, F⟩ := Z.c.def_ 10 (d := d_sure_zone) rfl
  exact ⟨fd, okA_sure_zone Z F, F.bindsN fun _ _ _ _ _ _ us hl => match us, hl with | [_], _ => rfl, F.kp⟩
theorem sc_shown : FnScope ["moment", "zone"] ["moment", "zone"] (defScope s_shown) := ⟨rfl, rfl, rfl, by decide +kernel, rfl, by decide +kernel, by decide +kernel⟩
theorem okA_shown (Z : Env K mg) {fd : FuncData} (F : FunD K d_shown.name d_shown.qual d_shown.params d_shown.body d_shown.scope (d_shown.dvs K) (d_shown.kws K) (fAd K d_shown.at_) fd) : FnOk P w K mg base CX0 4 (ga K "shown") fd ["moment", "zone"] (sp_shown K) := by
  obtain ⟨fd_sure_zone, G_sure_zone, b_sure_zone, k_sure_zone⟩ := ok_sure_zone (P := P) (w := w) (base := base) Z
  have g_sure_zone := Z.glo 12 (x := "sure_zone") rfl
  have z_divmod := Z.free 13 (x := "divmod") rfl
  have g_DAY := Z.int 11 (x := "DAY") (i := 1440) rfl
  refine F.ok sc_shown (fun vs H Q E h => len_shown h) (fun cdv A outer s H vs Q E hr h => ⟨t_shown K, PSs.nox ?_, run_shown h⟩)
  exact (pss_cons (ps_expr (pe_call G_sure_zone (hr.mono (by decide)) rfl g_sure_zone k_sure_zone b_sure_zone .nil pass0 (pa_cons (pv 1) pa_nil)))
    (pss_one (ps_ret (pe_callB call_divmod (by rfl) z_divmod (by decide +kernel) (pa_cons (pe_op op_add (pv 0) (pv 1)) (pa_cons (pe_glob rfl (Classical.choose_spec g_DAY) ⟨_, rfl⟩) pa_nil))))))
theorem ok_shown (Z : Env K mg) : ∃ fd, FnOk P w K mg base CX0 4 (ga K "shown") fd ["moment", "zone"] (sp_shown K) ∧ Binds K fd ["moment", "zone"] [] ∧ PySem.W.keepIn K (.ref (ga K "shown")) = true := by
  obtain ⟨fd, F⟩ := Z.c.def_ 11 (d := d_shown) rfl
  exact ⟨fd, okA_shown Z F, F.bindsN fun _ _ _ _ _ _ us hl => match us, hl with | [_, _], _ => rfl, F.kp⟩
theorem sc_is_quiet : FnScope ["quiet", "zone", "moment", "day", "minute", "start", "end"] ["quiet", "zone", "moment"] (defScope s_is_quiet) := ⟨rfl, rfl, rfl, by decide +kernel, rfl, by decide +kernel, by decide +kernel⟩
theorem okA_is_quiet (Z : Env K mg) {fd : FuncData} (F : FunD K d_is_quiet.name d_is_quiet.qual d_is_quiet.params d_is_quiet.body d_is_quiet.scope (d_is_quiet.dvs K) (d_is_quiet.kws K) (fAd K d_is_quiet.at_) fd) : FnOk P w K mg base CX0 5 (ga K "is_quiet") fd ["quiet", "zone", "moment"] (sp_is_quiet K) := by
  obtain ⟨fd_shown, G_shown, b_shown, k_shown⟩ := ok_shown (P := P) (w := w) (base := base) Z
  obtain ⟨fd_sure_quiet, G_sure_quiet, b_sure_quiet, k_sure_quiet⟩ := ok_sure_quiet (P := P) (w := w) (base := base) Z
  have g_shown := Z.glo 14 (x := "shown") rfl
  have g_sure_quiet := Z.glo 15 (x := "sure_quiet") rfl
  refine F.ok sc_is_quiet (fun vs H Q E h => len_is_quiet h) (fun cdv A outer s H vs Q E hr h => ⟨t_is_quiet K, PSs.nox ?_, run_is_quiet h⟩)
  exact (pss_cons (ps_expr (pe_call G_sure_quiet (hr.mono (by decide)) rfl g_sure_quiet k_sure_quiet b_sure_quiet .nil pass0 (pa_cons (pv 0) pa_nil)))
    (pss_cons (ps_asg (pe_call G_shown (hr.mono (by decide)) rfl g_shown k_shown b_shown .nil pass0 (pa_cons (pv 2) (pa_cons (pv 1) pa_nil))) (pg_tup (by rfl) (pgs_cons (pg_name (i := 3) sc_is_quiet.nd rfl (Or.inl rfl)) (pgs_cons (pg_name (i := 4) sc_is_quiet.nd rfl (Or.inl rfl)) pgs_nil))))
    (pss_cons (ps_if (pt_cmpR op_isN (pv 0) pe_non (nomark _)) (pss_one (ps_ret pe_bl)) pss_nil)
    (pss_cons (ps_asg (pv 0) (pg_tup (by rfl) (pgs_cons (pg_name (i := 5) sc_is_quiet.nd rfl (Or.inl rfl)) (pgs_cons (pg_name (i := 6) sc_is_quiet.nd rfl (Or.inl rfl)) pgs_nil))))
    (pss_cons (ps_if (pt_cmpR op_lt (pv 5) (pv 6) (nomark _)) (pss_one (ps_ret (pe_chain op_le op_lt (pv 5) (pv 4) (pv 6)))) pss_nil)
    (pss_one (ps_ret (pe_or (pe_cmpR op_ge (pv 4) (pv 5) (nomark _)) (pe_one (pe_cmpR op_lt (pv 4) (pv 6) (nomark _)))))))))))
theorem ok_is_quiet (Z : Env K mg) : ∃ fd, FnOk P w K mg base CX0 5 (ga K "is_quiet") fd ["quiet", "zone", "moment"] (sp_is_quiet K) ∧ Binds K fd ["quiet", "zone", "moment"] [] ∧ PySem.W.keepIn K (.ref (ga K "is_quiet")) = true := by
  obtain ⟨fd, F⟩ := Z.c.def_ 12 (d := d_is_quiet) rfl
  exact ⟨fd, okA_is_quiet Z F, F.bindsN fun _ _ _ _ _ _ us hl => match us, hl with | [_, _, _], _ => rfl, F.kp⟩
theorem sc_loud_from : FnScope ["quiet", "zone", "moment"] ["quiet", "zone", "moment"] (defScope s_loud_from) := ⟨rfl, rfl, rfl, by decide +kernel, rfl, by decide +kernel, by decide +kernel⟩
theorem okA_loud_from (Z : Env K mg) {fd : FuncData} (F : FunD K d_loud_from.name d_loud_from.qual d_loud_from.params d_loud_from.body d_loud_from.scope (d_loud_from.dvs K) (d_loud_from.kws K) (fAd K d_loud_from.at_) fd) : FnOk P w K mg base CX0 6 (ga K "loud_from") fd ["quiet", "zone", "moment"] (sp_loud_from K) := by
  obtain ⟨fd_is_quiet, G_is_quiet, b_is_quiet, k_is_quiet⟩ := ok_is_quiet (P := P) (w := w) (base := base) Z
  obtain ⟨fd_shown, G_shown, b_shown, k_shown⟩ := ok_shown (P := P) (w := w) (base := base) Z
  have g_is_quiet := Z.glo 16 (x := "is_quiet") rfl
  have g_shown := Z.glo 14 (x := "shown") rfl
  have g_DAY := Z.int 11 (x := "DAY") (i := 1440) rfl
  refine F.ok sc_loud_from (fun vs H Q E h => len_loud_from h) (fun cdv A outer s H vs Q E hr h => ⟨t_loud_from K, PSs.nox ?_, run_loud_from h⟩)
  exact (pss_cons (ps_if (pt_not (pt_val (pe_call G_is_quiet (hr.mono (by decide)) rfl g_is_quiet k_is_quiet b_is_quiet .nil pass0 (pa_cons (pv 0) (pa_cons (pv 1) (pa_cons (pv 2) pa_nil)))))) (pss_one (ps_ret (pv 2))) pss_nil)
    (pss_one (ps_ret (pe_op op_add (pv 2) (pe_op op_mod (pe_op op_sub (pe_ix ix_seq (pv 0) pe_int (fun _ _ => rfl)) (pe_ix ix_seq (pe_call G_shown (hr.mono (by decide)) rfl g_shown k_shown b_shown .nil pass0 (pa_cons (pv 2) (pa_cons (pv 1) pa_nil))) pe_int (fun _ _ => rfl))) (pe_glob rfl (Classical.choose_spec g_DAY) ⟨_, rfl⟩))))))
theorem ok_loud_from (Z : Env K mg) : ∃ fd, FnOk P w K mg base CX0 6 (ga K "loud_from") fd ["quiet", "zone", "moment"] (sp_loud_from K) ∧ Binds K fd ["quiet", "zone", "moment"] [] ∧ PySem.W.keepIn K (.ref (ga K "loud_from")) = true := by
  obtain ⟨fd, F⟩ := Z.c.def_ 13 (d := d_loud_from) rfl
  exact ⟨fd, okA_loud_from Z F, F.bindsN fun _ _ _ _ _ _ us hl => match us, hl with | [_, _, _], _ => rfl, F.kp⟩
theorem sc_law_other : FnScope ["_law_well_here", "_law_zone", "_law_quiet_here", "_law_moment_here", "_law_way"] ["_law_well_here", "_law_zone", "_law_quiet_here", "_law_moment_here"] (defScope s_law_other) := ⟨rfl, rfl, rfl, by decide +kernel, rfl, by decide +kernel, by decide +kernel⟩
theorem okA_law_other (Z : Env K mg) {fd : FuncData} (F : FunD K d_law_other.name d_law_other.qual d_law_other.params d_law_other.body d_law_other.scope (d_law_other.dvs K) (d_law_other.kws K) (fAd K d_law_other.at_) fd) : FnOk P w K mg base CX0 4 (ga K "_law_other") fd ["_law_well_here", "_law_zone", "_law_quiet_here", "_law_moment_here"] (sp_law_other K) := by
  obtain ⟨fd_law_draw, G_law_draw, b_law_draw, k_law_draw⟩ := ok_law_draw (P := P) (w := w) (base := base) Z
  obtain ⟨fd_law_moment, G_law_moment, b_law_moment, k_law_moment⟩ := ok_law_moment (P := P) (w := w) (base := base) Z
  have g__law_draw := Z.glo 3 (x := "_law_draw") rfl
  have g__law_moment := Z.glo 17 (x := "_law_moment") rfl
  refine F.ok sc_law_other (fun vs H Q E h => len_law_other h) (fun cdv A outer s H vs Q E hr h => ⟨t_law_other K, PSs.nox ?_, run_law_other h⟩)
  exact (pss_cons (ps_set (i := 4) sc_law_other.nd rfl (Or.inl rfl) (pe_call G_law_draw (hr.mono (by decide)) rfl g__law_draw k_law_draw b_law_draw .nil pass0 (pa_cons (pv 0) (pa_cons pe_int pa_nil))))
    (pss_cons (ps_if (pt_cmpR op_eq (pv 4) pe_int (nomark _)) (pss_one (ps_ret (pe_op op_add (pv 3) (pe_call G_law_draw (hr.mono (by decide)) rfl g__law_draw k_law_draw b_law_draw .nil pass0 (pa_cons (pv 0) (pa_cons pe_int pa_nil)))))) pss_nil)
    (pss_cons (ps_if (pt_cmpR op_eq (pv 4) pe_int (nomark _)) (pss_one (ps_ret (pe_op op_sub (pe_op op_add (pe_op op_add (pv 3) (pe_op op_mul pe_int (pe_call G_law_draw (hr.mono (by decide)) rfl g__law_draw k_law_draw b_law_draw .nil pass0 (pa_cons (pv 0) (pa_cons pe_int pa_nil))))) (pe_call G_law_draw (hr.mono (by decide)) rfl g__law_draw k_law_draw b_law_draw .nil pass0 (pa_cons (pv 0) (pa_cons pe_int pa_nil)))) pe_int))) pss_nil)
    (pss_cons (ps_if (pt_cmpR op_eq (pv 4) pe_int (nomark _)) (pss_one (ps_ret (pe_op op_sub (pv 3) (pe_call G_law_draw (hr.mono (by decide)) rfl g__law_draw k_law_draw b_law_draw .nil pass0 (pa_cons (pv 0) (pa_cons pe_int pa_nil)))))) pss_nil)
    (pss_one (ps_ret (pe_call G_law_moment (hr.mono (by decide)) rfl g__law_moment k_law_moment b_law_moment .nil pass0 (pa_cons (pv 0) (pa_cons (pv 1) (pa_cons (pv 2) pa_nil))))))))))
theorem ok_law_other (Z : Env K mg) : ∃ fd, FnOk P w K mg base CX0 4 (ga K "_law_other") fd ["_law_well_here", "_law_zone", "_law_quiet_here", "_law_moment_here"] (sp_law_other K) ∧ Binds K fd ["_law_well_here", "_law_zone", "_law_quiet_here", "_law_moment_here"] [] ∧ PySem.W.keepIn K (.ref (ga K "_law_other")) = true := by
  obtain ⟨fd, F⟩ := Z.c.def_ 14 (d := d_law_other) rfl
  exact ⟨fd, okA_law_other Z F, F.bindsN fun _ _ _ _ _ _ us hl => match us, hl with | [_, _, _, _], _ => rfl, F.kp⟩
theorem sc_quiet_ahead : FnScope ["quiet", "zone", "moment", "start", "end", "day", "minute"] ["quiet", "zone", "moment"] (defScope s_quiet_ahead) := ⟨rfl, rfl, rfl, by decide +kernel, rfl, by decide +kernel, by decide +kernel⟩
theorem okA_quiet_ahead (Z : Env K mg) {fd : FuncData} (F : FunD K d_quiet_ahead.name d_quiet_ahead.qual d_quiet_ahead.params d_quiet_ahead.body d_quiet_ahead.scope (d_quiet_ahead.dvs K) (d_quiet_ahead.kws K) (fAd K d_quiet_ahead.at_) fd) : FnOk P w K mg base CX0 5 (ga K "quiet_ahead") fd ["quiet", "zone", "moment"] (sp_quiet_ahead K) := by
  obtain ⟨fd_shown, G_shown, b_shown, k_shown⟩ := ok_shown (P := P) (w := w) (base := base) Z
  have g_shown := Z.glo 14 (x := "shown") rfl
  have z_max := Z.free 18 (x := "max") rfl
  have z_min := Z.free 19 (x := "min") rfl
  have g_DAY := Z.int 11 (x := "DAY") (i := 1440) rfl
  refine F.ok sc_quiet_ahead (fun vs H Q E h => len_quiet_ahead h) (fun cdv A outer s H vs Q E hr h => ⟨t_quiet_ahead K, PSs.nox ?_, run_quiet_ahead h⟩)
  exact (pss_cons (ps_asg (pv 0) (pg_tup (by rfl) (pgs_cons (pg_name (i := 3) sc_quiet_ahead.nd rfl (Or.inl rfl)) (pgs_cons (pg_name (i := 4) sc_quiet_ahead.nd rfl (Or.inl rfl)) pgs_nil))))
    (pss_cons (ps_asg (pe_call G_shown (hr.mono (by decide)) rfl g_shown k_shown b_shown .nil pass0 (pa_cons (pv 2) (pa_cons (pv 1) pa_nil))) (pg_tup (by rfl) (pgs_cons (pg_name (i := 5) sc_quiet_ahead.nd rfl (Or.inl rfl)) (pgs_cons (pg_name (i := 6) sc_quiet_ahead.nd rfl (Or.inl rfl)) pgs_nil))))
    (pss_cons (ps_if (pt_cmpR op_lt (pv 3) (pv 4) (nomark _)) (pss_one (ps_ret (pe_op op_add (pe_op op_mul (pv 5) (pe_op op_sub (pv 4) (pv 3))) (pe_callB (call_min2 rfl) (by rfl) z_min (by decide +kernel) (pa_cons (pe_callB (call_max2 rfl) (by rfl) z_max (by decide +kernel) (pa_cons (pe_op op_sub (pv 6) (pv 3)) (pa_cons pe_int pa_nil))) (pa_cons (pe_op op_sub (pv 4) (pv 3)) pa_nil)))))) pss_nil)
    (pss_one (ps_ret (pe_op op_add (pe_op op_add (pe_op op_mul (pv 5) (pe_op op_sub (pe_op op_add (pv 4) (pe_glob rfl (Classical.choose_spec g_DAY) ⟨_, rfl⟩)) (pv 3))) (pe_callB (call_min2 rfl) (by rfl) z_min (by decide +kernel) (pa_cons (pv 6) (pa_cons (pv 4) pa_nil)))) (pe_callB (call_max2 rfl) (by rfl) z_max (by decide +kernel) (pa_cons (pe_op op_sub (pv 6) (pv 3)) (pa_cons pe_int pa_nil)))))))))
theorem ok_quiet_ahead (Z : Env K mg) : ∃ fd, FnOk P w K mg base CX0 5 (ga K "quiet_ahead") fd ["quiet", "zone", "moment"] (sp_quiet_ahead K) ∧ Binds K fd ["quiet", "zone", "moment"] [] ∧ PySem.W.keepIn K (.ref (ga K "quiet_ahead")) = true := by
  obtain ⟨fd, F⟩ := Z.c.def_ 15 (d := d_quiet_ahead) rfl
  exact ⟨fd, okA_quiet_ahead Z F, F.bindsN fun _ _ _ _ _ _ us hl => match us, hl with | [_, _, _], _ => rfl, F.kp⟩
theorem sc_quiet_count : FnScope ["quiet", "zone", "one", "other"] ["quiet", "zone", "one", "other"] (defScope s_quiet_count) := ⟨rfl, rfl, rfl, by decide +kernel, rfl, by decide +kernel, by decide +kernel⟩
theorem okA_quiet_count (Z : Env K mg) {fd : FuncData} (F : FunD K d_quiet_count.name d_quiet_count.qual d_quiet_count.params d_quiet_count.body d_quiet_count.scope (d_quiet_count.dvs K) (d_quiet_count.kws K) (fAd K d_quiet_count.at_) fd) : FnOk P w K mg base CX0 6 (ga K "quiet_count") fd ["quiet", "zone", "one", "other"] (sp_quiet_count K) := by
  obtain ⟨fd_quiet_ahead, G_quiet_ahead, b_quiet_ahead, k_quiet_ahead⟩ := ok_quiet_ahead (P := P) (w := w) (base := base) Z
  obtain ⟨fd_sure_quiet, G_sure_quiet, b_sure_quiet, k_sure_quiet⟩ := ok_sure_quiet (P := P) (w := w) (base := base) Z
  obtain ⟨fd_sure_zone, G_sure_zone, b_sure_zone, k_sure_zone⟩ := ok_sure_zone (P := P) (w := w) (base := base) Z
  have g_quiet_ahead := Z.glo 20 (x := "quiet_ahead") rfl
  have g_sure_quiet := Z.glo 15 (x := "sure_quiet") rfl
  have g_sure_zone := Z.glo 12 (x := "sure_zone") rfl
  refine F.ok sc_quiet_count (fun vs H Q E h => len_quiet_count h) (fun cdv A outer s H vs Q E hr h => ⟨t_quiet_count K, PSs.nox ?_, run_quiet_count h⟩)
  exact (pss_cons (ps_expr (pe_call G_sure_quiet (hr.mono (by decide)) rfl g_sure_quiet k_sure_quiet b_sure_quiet .nil pass0 (pa_cons (pv 0) pa_nil)))
    (pss_cons (ps_expr (pe_call G_sure_zone (hr.mono (by decide)) rfl g_sure_zone k_sure_zone b_sure_zone .nil pass0 (pa_cons (pv 1) pa_nil)))
    (pss_cons (ps_if (PW.pt (pw_or (pt_cmpR op_isN (pv 0) pe_non (nomark _)) (pw_or1 (pt_cmpR op_le (pv 3) (pv 2) (nomark _))))) (pss_one (ps_ret pe_int)) pss_nil)
    (pss_one (ps_ret (pe_op op_sub (pe_call G_quiet_ahead (hr.mono (by decide)) rfl g_quiet_ahead k_quiet_ahead b_quiet_ahead .nil pass0 (pa_cons (pv 0) (pa_cons (pv 1) (pa_cons (pv 3) pa_nil)))) (pe_call G_quiet_ahead (hr.mono (by decide)) rfl g_quiet_ahead k_quiet_ahead b_quiet_ahead .nil pass0 (pa_cons (pv 0) (pa_cons (pv 1) (pa_cons (pv 2) pa_nil))))))))))
theorem ok_quiet_count (Z : Env K mg) : ∃ fd, FnOk P w K mg base CX0 6 (ga K "quiet_count") fd ["quiet", "zone", "one", "other"] (sp_quiet_count K) ∧ Binds K fd ["quiet", "zone", "one", "other"] [] ∧ PySem.W.keepIn K (.ref (ga K "quiet_count")) = true := by
  obtain ⟨fd, F⟩ := Z.c.def_ 16 (d := d_quiet_count) rfl
  exact ⟨fd, okA_quiet_count Z F, F.bindsN fun _ _ _ _ _ _ us hl => match us, hl with | [_, _, _, _], _ => rfl, F.kp⟩
theorem sc_law_whole : FnScope ["_law_found"] ["_law_found"] (defScope s_law_whole) := ⟨rfl, rfl, rfl, by decide +kernel, rfl, by decide +kernel, by decide +kernel⟩
theorem okA_law_whole (Z : Env K mg) {fd : FuncData} (F : FunD K d_law_whole.name d_law_whole.qual d_law_whole.params d_law_whole.body d_law_whole.scope (d_law_whole.dvs K) (d_law_whole.kws K) (fAd K d_law_whole.at_) fd) : FnOk P w K mg base CX0 1 (ga K "_law_whole") fd ["_law_found"] (sp_law_whole K) := by
  have z_bool := Z.free 5 (x := "bool") rfl
  have z_int := Z.free 1 (x := "int") rfl
  have z_isinstance := Z.free 6 (x := "isinstance") rfl
  refine F.ok sc_law_whole (fun vs H Q E h => len_law_whole h) (fun cdv A outer s H vs Q E hr h => ⟨t_law_whole K, PSs.nox ?_, run_law_whole h⟩)
  exact (pss_one (ps_ret (pe_and (pe_callB call_isi (by rfl) z_isinstance (by decide +kernel) (pa_cons (pv 0) (pa_cons (pe_bltn (v := .ty "int") (by rfl) z_int (by decide +kernel) rfl) pa_nil))) (pe_one (pe_not (pe_callB call_isi (by rfl) z_isinstance (by decide +kernel) (pa_cons (pv 0) (pa_cons (pe_bltn (v := .ty "bool") (by rfl) z_bool (by decide +kernel) rfl) pa_nil))))))))
theorem ok_law_whole (Z : Env K mg) : ∃ fd, FnOk P w K mg base CX0 1 (ga K "_law_whole") fd ["_law_found"] (sp_law_whole K) ∧ Binds K fd ["_law_found"] [] ∧ PySem.W.keepIn K (.ref (ga K "_law_whole")) = true := by
  obtain ⟨fd, F⟩ := Z.c.def_ 17 (d := d_law_whole) rfl
  exact ⟨fd, okA_law_whole Z F, F.bindsN fun _ _ _ _ _ _ us hl => match us, hl with | [_], _ => rfl, F.kp⟩
theorem sc_law_loud : FnScope ["_law_marks_here", "_law_zone", "_law_moment_here"] ["_law_marks_here", "_law_zone", "_law_moment_here"] (defScope s_law_loud) := ⟨rfl, rfl, rfl, by decide +kernel, rfl, by decide +kernel, by decide +kernel⟩
theorem okA_law_loud (Z : Env K mg) {fd : FuncData} (F : FunD K d_law_loud.name d_law_loud.qual d_law_loud.params d_law_loud.body d_law_loud.scope (d_law_loud.dvs K) (d_law_loud.kws K) (fAd K d_law_loud.at_) fd) : FnOk P w K mg base CX0 1 (ga K "_law_loud") fd ["_law_marks_here", "_law_zone", "_law_moment_here"] (sp_law_loud K) := by
  refine F.ok sc_law_loud (fun vs H Q E h => len_law_loud h) (fun cdv A outer s H vs Q E hr h => ⟨t_law_loud K, PSs.nox ?_, run_law_loud h⟩)
  exact (pss_cons (ps_while PassesOwn.never (pt_cmpR op_eq (pe_ix ix_seq (pv 0) (pe_op op_mod (pe_op op_add (pv 2) (pv 1)) pe_int) (fun _ _ => rfl)) pe_int (nomark _))
    (pss_one (ps_set (i := 2) sc_law_loud.nd rfl (Or.inl rfl) (pe_op op_add (pv 2) pe_int))))
    (pss_one (ps_ret (pv 2))))
theorem ok_law_loud (Z : Env K mg) : ∃ fd, FnOk P w K mg base CX0 1 (ga K "_law_loud") fd ["_law_marks_here", "_law_zone", "_law_moment_here"] (sp_law_loud K) ∧ Binds K fd ["_law_marks_here", "_law_zone", "_law_moment_here"] [] ∧ PySem.W.keepIn K (.ref (ga K "_law_loud")) = true := by
  obtain ⟨fd, F⟩ := Z.c.def_ 18 (d := d_law_loud) rfl
  exact ⟨fd, okA_law_loud Z F, F.bindsN fun _ _ _ _ _ _ us hl => match us, hl with | [_, _, _], _ => rfl, F.kp⟩
theorem sc_law_counted : FnScope ["_law_marks_here", "_law_zone", "_law_one", "_law_other_here", "_law_found", "_law_moment_here"] ["_law_marks_here", "_law_zone", "_law_one", "_law_other_here"] (defScope s_law_counted) := ⟨rfl, rfl, rfl, by decide +kernel, rfl, by decide +kernel, by decide +kernel⟩
theorem okA_law_counted (Z : Env K mg) {fd : FuncData} (F : FunD K d_law_counted.name d_law_counted.qual d_law_counted.params d_law_counted.body d_law_counted.scope (d_law_counted.dvs K) (d_law_counted.kws K) (fAd K d_law_counted.at_) fd) : FnOk P w K mg base CX0 1 (ga K "_law_counted") fd ["_law_marks_here", "_law_zone", "_law_one", "_law_other_here"] (sp_law_counted K) := by
  have z_range := Z.free 2 (x := "range") rfl
  have z_sum := Z.free 21 (x := "sum") rfl
  refine F.ok sc_law_counted (fun vs H Q E h => len_law_counted h) (fun cdv A outer s H vs Q E hr h => ⟨t_law_counted K, PSs.nox ?_, run_law_counted h⟩)
  exact (pss_cons (ps_if (pt_cmpR op_le (pv 3) (pv 2) (nomark _)) (pss_one (ps_ret pe_int)) pss_nil)
    (pss_cons (ps_set (i := 4) sc_law_counted.nd rfl (Or.inl rfl) (pe_op op_mul (pe_op op_fdiv (pe_op op_sub (pv 3) (pv 2)) pe_int) (pe_callB (cr_sum rfl) (by rfl) z_sum (by decide +kernel) (pa_cons (pv 0) pa_nil))))
    (pss_cons (ps_for PassesOwn.never rfl (pi_range2 rfl z_range (pa_cons (pe_op op_add (pv 2) (pe_op op_mul (pe_op op_fdiv (pe_op op_sub (pv 3) (pv 2)) pe_int) pe_int)) (pa_cons (pv 3) pa_nil))) (pg_name (i := 5) sc_law_counted.nd rfl (Or.inl rfl))
    (pss_one (ps_set (i := 4) sc_law_counted.nd rfl (Or.inl rfl) (pe_op op_add (pv 4) (pe_ix ix_seq (pv 0) (pe_op op_mod (pe_op op_add (pv 5) (pv 1)) pe_int) (fun _ _ => rfl))))))
    (pss_one (ps_ret (pv 4))))))
theorem ok_law_counted (Z : Env K mg) : ∃ fd, FnOk P w K mg base CX0 1 (ga K "_law_counted") fd ["_law_marks_here", "_law_zone", "_law_one", "_law_other_here"] (sp_law_counted K) ∧ Binds K fd ["_law_marks_here", "_law_zone", "_law_one", "_law_other_here"] [] ∧ PySem.W.keepIn K (.ref (ga K "_law_counted")) = true := by
  obtain ⟨fd, F⟩ := Z.c.def_ 19 (d := d_law_counted) rfl
  exact ⟨fd, okA_law_counted Z F, F.bindsN fun _ _ _ _ _ _ us hl => match us, hl with | [_, _, _, _], _ => rfl, F.kp⟩
theorem sc_law : FnScope ["_law_script", "_law_well_here", "_law_zone", "_law_quiet_here", "_law_marks_here", "_law_cell", "_law_one", "_law_found", "_law_other_here", "_law_amid", "_law_parts"] ["_law_script"] (defScope s_law) := ⟨rfl, rfl, rfl, by decide +kernel, rfl, by decide +kernel, by decide +kernel⟩
theorem okA_law (Z : Env K mg) {fd : FuncData} (F : FunD K d_law.name d_law.qual d_law.params d_law.body d_law.scope (d_law.dvs K) (d_law.kws K) (fAd K d_law.at_) fd) : FnOk P w K mg base CX0 7 (ga K "law") fd ["_law_script"] (sp_law K) := by
  obtain ⟨fd_law_cell_at, G_law_cell_at, b_law_cell_at, k_law_cell_at⟩ := ok_law_cell_at (P := P) (w := w) (base := base) Z
  obtain ⟨fd_law_counted, G_law_counted, b_law_counted, k_law_counted⟩ := ok_law_counted (P := P) (w := w) (base := base) Z
  obtain ⟨fd_law_draw, G_law_draw, b_law_draw, k_law_draw⟩ := ok_law_draw (P := P) (w := w) (base := base) Z
  obtain ⟨fd_law_loud, G_law_loud, b_law_loud, k_law_loud⟩ := ok_law_loud (P := P) (w := w) (base := base) Z
  obtain ⟨fd_law_marks, G_law_marks, b_law_marks, k_law_marks⟩ := ok_law_marks (P := P) (w := w) (base := base) Z
  obtain ⟨fd_law_moment, G_law_moment, b_law_moment, k_law_moment⟩ := ok_law_moment (P := P) (w := w) (base := base) Z
  obtain ⟨fd_law_other, G_law_other, b_law_other, k_law_other⟩ := ok_law_other (P := P) (w := w) (base := base) Z
  obtain ⟨fd_law_quiet, G_law_quiet, b_law_quiet, k_law_quiet⟩ := ok_law_quiet (P := P) (w := w) (base := base) Z
  obtain ⟨fd_law_well, G_law_well, b_law_well, k_law_well⟩ := ok_law_well (P := P) (w := w) (base := base) Z
  obtain ⟨fd_law_whole, G_law_whole, b_law_whole, k_law_whole⟩ := ok_law_whole (P := P) (w := w) (base := base) Z
  obtain ⟨fd_loud_from, G_loud_from, b_loud_from, k_loud_from⟩ := ok_loud_from (P := P) (w := w) (base := base) Z
  obtain ⟨fd_quiet_count, G_quiet_count, b_quiet_count, k_quiet_count⟩ := ok_quiet_count (P := P) (w := w) (base := base) Z
  have g__law_cell_at := Z.glo 22 (x := "_law_cell_at") rfl
  have g__law_counted := Z.glo 23 (x := "_law_counted") rfl
  have g__law_draw := Z.glo 3 (x := "_law_draw") rfl
  have g__law_loud := Z.glo 24 (x := "_law_loud") rfl
  have g__law_marks := Z.glo 25 (x := "_law_marks") rfl
  have g__law_moment := Z.glo 17 (x := "_law_moment") rfl
  have g__law_other := Z.glo 26 (x := "_law_other") rfl
  have g__law_quiet := Z.glo 27 (x := "_law_quiet") rfl
  have g__law_well := Z.glo 28 (x := "_law_well") rfl
  have g__law_whole := Z.glo 29 (x := "_law_whole") rfl
  have g_loud_from := Z.glo 30 (x := "loud_from") rfl
  have g_quiet_count := Z.glo 31 (x := "quiet_count") rfl
  have z_max := Z.free 18 (x := "max") rfl
  have z_sum := Z.free 21 (x := "sum") rfl
  refine F.ok sc_law (fun vs H Q E h => len_law h) (fun cdv A outer s H vs Q E hr h => ⟨t_law K, PSs.nox ?_, run_law h⟩)
  exact (pss_cons (ps_set (i := 1) sc_law.nd rfl (Or.inl rfl) (pe_call G_law_well (hr.mono (by decide)) rfl g__law_well k_law_well b_law_well .nil pass0 (pa_cons (pe_call G_law_cell_at (hr.mono (by decide)) rfl g__law_cell_at k_law_cell_at b_law_cell_at .nil pass0 (pa_cons (pv 0) (pa_cons pe_int pa_nil))) pa_nil)))
    (pss_cons (ps_set (i := 2) sc_law.nd rfl (Or.inl rfl) (pe_ix ix_seq (pe_lst (pa_cons pe_int (pa_cons pe_int (pa_cons (pe_un un_neg pe_int) (pa_cons (pe_op op_sub (pe_call G_law_draw (hr.mono (by decide)) rfl g__law_draw k_law_draw b_law_draw .nil pass0 (pa_cons (pv 1) (pa_cons pe_int pa_nil))) pe_int) pa_nil))))) (pe_call G_law_draw (hr.mono (by decide)) rfl g__law_draw k_law_draw b_law_draw .nil pass0 (pa_cons (pv 1) (pa_cons pe_int pa_nil))) (fun _ _ => rfl)))
    (pss_cons (ps_set (i := 3) sc_law.nd rfl (Or.inl rfl) (pe_call G_law_quiet (hr.mono (by decide)) rfl g__law_quiet k_law_quiet b_law_quiet .nil pass0 (pa_cons (pv 1) pa_nil)))
    (pss_cons (ps_set (i := 4) sc_law.nd rfl (Or.inl rfl) (pe_call G_law_marks (hr.mono (by decide)) rfl g__law_marks k_law_marks b_law_marks .nil pass0 (pa_cons (pv 3) pa_nil)))
    (pss_cons (ps_for PassesOwn.never rfl (pi_list (pe_op op_cat (pe_lst (pa_cons (pe_call G_law_cell_at (hr.mono (by decide)) rfl g__law_cell_at k_law_cell_at b_law_cell_at .nil pass0 (pa_cons (pv 0) (pa_cons pe_int pa_nil))) pa_nil)) (pe_slice sl_list (pv 0) (po_some pe_int) (po_some pe_int)))) (pg_name (i := 5) sc_law.nd rfl (Or.inl rfl))
    (pss_cons (ps_set (i := 1) sc_law.nd rfl (Or.inl rfl) (pe_call G_law_well (hr.mono (by decide)) rfl g__law_well k_law_well b_law_well .nil pass0 (pa_cons (pv 5) pa_nil)))
    (pss_cons (ps_set (i := 6) sc_law.nd rfl (Or.inl rfl) (pe_call G_law_moment (hr.mono (by decide)) rfl g__law_moment k_law_moment b_law_moment .nil pass0 (pa_cons (pv 1) (pa_cons (pv 2) (pa_cons (pv 3) pa_nil)))))
    (pss_cons (ps_set (i := 7) sc_law.nd rfl (Or.inl rfl) (pe_call G_loud_from (hr.mono (by decide)) rfl g_loud_from k_loud_from b_loud_from .nil pass0 (pa_cons (pv 3) (pa_cons (pv 2) (pa_cons (pv 6) pa_nil)))))
    (pss_cons (ps_if (PW.pt (pw_or (pt_not (pt_val (pe_call G_law_whole (hr.mono (by decide)) rfl g__law_whole k_law_whole b_law_whole .nil pass0 (pa_cons (pv 7) pa_nil)))) (pw_or (pt_cmpR op_ne (pv 7) (pe_call G_law_loud (hr.mono (by decide)) rfl g__law_loud k_law_loud b_law_loud .nil pass0 (pa_cons (pv 4) (pa_cons (pv 2) (pa_cons (pv 6) pa_nil)))) (nomark _)) (pw_or1 (pt_cmpR op_ne (pe_call G_loud_from (hr.mono (by decide)) rfl g_loud_from k_loud_from b_loud_from .nil pass0 (pa_cons pe_non (pa_cons (pv 2) (pa_cons (pv 6) pa_nil)))) (pv 6) (nomark _)))))) (pss_one (ps_ret pe_bl)) pss_nil)
    (pss_cons (ps_set (i := 8) sc_law.nd rfl (Or.inl rfl) (pe_call G_law_other (hr.mono (by decide)) rfl g__law_other k_law_other b_law_other .nil pass0 (pa_cons (pv 1) (pa_cons (pv 2) (pa_cons (pv 3) (pa_cons (pv 6) pa_nil))))))
    (pss_cons (ps_set (i := 7) sc_law.nd rfl (Or.inl rfl) (pe_call G_quiet_count (hr.mono (by decide)) rfl g_quiet_count k_quiet_count b_quiet_count .nil pass0 (pa_cons (pv 3) (pa_cons (pv 2) (pa_cons (pv 6) (pa_cons (pv 8) pa_nil))))))
    (pss_cons (ps_if (PW.pt (pw_or (pt_not (pt_val (pe_call G_law_whole (hr.mono (by decide)) rfl g__law_whole k_law_whole b_law_whole .nil pass0 (pa_cons (pv 7) pa_nil)))) (pw_or1 (pt_cmpR op_ne (pv 7) (pe_call G_law_counted (hr.mono (by decide)) rfl g__law_counted k_law_counted b_law_counted .nil pass0 (pa_cons (pv 4) (pa_cons (pv 2) (pa_cons (pv 6) (pa_cons (pv 8) pa_nil))))) (nomark _))))) (pss_one (ps_ret pe_bl)) pss_nil)
    (pss_cons (ps_if (PW.pt (pw_or (pt_cmpR op_ne (pe_call G_quiet_count (hr.mono (by decide)) rfl g_quiet_count k_quiet_count b_quiet_count .nil pass0 (pa_cons pe_non (pa_cons (pv 2) (pa_cons (pv 6) (pa_cons (pv 8) pa_nil))))) pe_int (nomark _)) (pw_or1 (pt_cmpR op_ne (pe_call G_quiet_count (hr.mono (by decide)) rfl g_quiet_count k_quiet_count b_quiet_count .nil pass0 (pa_cons (pv 3) (pa_cons (pv 2) (pa_cons (pv 6) (pa_cons (pv 6) pa_nil))))) pe_int (nomark _))))) (pss_one (ps_ret pe_bl)) pss_nil)
    (pss_cons (ps_set (i := 9) sc_law.nd rfl (Or.inl rfl) (pe_op op_add (pv 6) (pe_call G_law_draw (hr.mono (by decide)) rfl g__law_draw k_law_draw b_law_draw .nil pass0 (pa_cons (pv 1) (pa_cons (pe_callB (call_max2 rfl) (by rfl) z_max (by decide +kernel) (pa_cons pe_int (pa_cons (pe_op op_sub (pv 8) (pv 6)) pa_nil))) pa_nil)))))
    (pss_cons (ps_set (i := 10) sc_law.nd rfl (Or.inl rfl) (pe_lst (pa_cons (pe_call G_quiet_count (hr.mono (by decide)) rfl g_quiet_count k_quiet_count b_quiet_count .nil pass0 (pa_cons (pv 3) (pa_cons (pv 2) (pa_cons (pv 6) (pa_cons (pv 9) pa_nil))))) (pa_cons (pe_call G_quiet_count (hr.mono (by decide)) rfl g_quiet_count k_quiet_count b_quiet_count .nil pass0 (pa_cons (pv 3) (pa_cons (pv 2) (pa_cons (pv 9) (pa_cons (pv 8) pa_nil))))) pa_nil))))
    (pss_one (ps_if (PW.pt (pw_and (pt_cmpR op_gt (pv 8) (pv 6) (nomark _)) (pw_and1 (pt_cmpR op_ne (pe_callB (cr_sum rfl) (by rfl) z_sum (by decide +kernel) (pa_cons (pv 10) pa_nil)) (pv 7) (nomark _))))) (pss_one (ps_ret pe_bl)) pss_nil)))))))))))))
    (pss_one (ps_ret pe_bl)))))))
theorem ok_law (Z : Env K mg) : ∃ fd, FnOk P w K mg base CX0 7 (ga K "law") fd ["_law_script"] (sp_law K) ∧ Binds K fd ["_law_script"] [] ∧ PySem.W.keepIn K (.ref (ga K "law")) = true := by
  obtain ⟨fd, F⟩ := Z.c.def_ 20 (d := d_law) rfl
  exact ⟨fd, okA_law Z F, F.bindsN fun _ _ _ _ _ _ us hl => match us, hl with | [_], _ => rfl, F.kp⟩
end
/-! ### the head -/
abbrev R : PySem.W.OpenRow := PySem.W.OpenLaw.row PySem.Challenge.rw_bellsaway_k03_loud_moments_and_counts
abbrev hk : PySem.W.Hook := He.hookD 5 fa fn
def ob (s : PySem.W.SharedT) : He.AlD := He.obsDG 5 fa fn (HandSHeadRun.getT s)
theorem ob_eq (s : PySem.W.SharedT) : ob s = hk.obs s.abs := He.obsDG_eq (HandSHeadRun.getT_eq s)
theorem run (w : World) : HandSHeadRun.RunEq R (PySem.W.view R.prog [27]) hk ob 4000 ["BellError", "NoClock", "is_whole", "is_between", "DAY", "sure_zone", "sure_quiet", "shown", "is_quiet", "loud_from", "quiet_ahead", "quiet_count", "_law_cell_at", "_law_mixed", "_law_well", "_law_draw", "_law_whole", "_law_quiet", "_law_marks", "_law_moment", "_law_other", "_law_counted", "_law_loud"] w := by
  intro os
  kernel_rfl
theorem facts {P : Program} {w : World} {K : PySem.W.Frag} {h : Heap} {mg : Str → Option Value} {f : Addr} (X : K.In h) (G : h.Ns mainGlobals mg) (hfa : mg ("law" : Str) = some (.ref f)) (c : He.SaysD fa fn K) :
    ∃ fd : FuncData, (∀ (s : Shared) (v : Value), BindsTo s fd ⟨[v], []⟩ [("_law_script", v)]) ∧ ∀ base : Heap, K.In base → base.Ns mainGlobals mg → FnOk P w K mg base CX0 7 f fd ["_law_script"] (sp_law K) := by
  have Z : Env K mg := ⟨c, h, X, G⟩
  obtain ⟨fd, F⟩ := c.def_ 20 (d := d_law) rfl
  have e := hfa.symm.trans (Z.glo 32 rfl)
  cases e
  have b := FunD.bindsA (ps := ["_law_script"]) F fun _ _ _ _ _ _ us hl => match us, hl with | [_], _ => rfl
  exact ⟨fd, fun s v => b s [v] rfl, fun base _ _ => okA_law Z F⟩
end Pr
open PySem PySem.W PySem.Calls PyProof.Rows
set_option maxRecDepth 100000 in
set_option maxHeartbeats 0 in
theorem PySem.Challenge.cw_bellsaway_k03_loud_moments_and_counts_holds : PySem.Challenge.rw_bellsaway_k03_loud_moments_and_counts.Holds := by
  w_on; o_law
  refine HandSHeadRun.head_any (r := OpenLaw.row PySem.Challenge.rw_bellsaway_k03_loud_moments_and_counts) (q := view (OpenLaw.row PySem.Challenge.rw_bellsaway_k03_loud_moments_and_counts).prog [27]) (H := Pr.hk) (ob := Pr.ob) (M := 4000) (loose := ["BellError", "NoClock", "is_whole", "is_between", "DAY", "sure_zone", "sure_quiet", "shown", "is_quiet", "loud_from", "quiet_ahead", "quiet_count", "_law_cell_at", "_law_mixed", "_law_well", "_law_draw", "_law_whole", "_law_quiet", "_law_marks", "_law_moment", "_law_other", "_law_counted", "_law_loud"]) (d := HandSHeadRun.topDef (OpenLaw.row PySem.Challenge.rw_bellsaway_k03_loud_moments_and_counts).prog 27) (kwd := []) Pr.ob_eq
    (by kernel_rfl) (fun s => by kernel_rfl) Pr.run (by kernel_rfl) (by kernel_rfl) (by kernel_rfl) (by rfl) (by first | assumption | decide +kernel) (by decide +kernel) ⟨rfl, rfl, rfl, rfl, rfl, by decide +kernel⟩ ?hw ?hc
  case hw => w_witness2
  case hc =>
    refine L2.walk_ofE (l := PySem.Challenge.rw_bellsaway_k03_loud_moments_and_counts) (n := 63) (k := 7) (x := "_law_script") (CX := L2.CX0) rfl (by decide) (by kernel_rfl) ⟨rfl, by decide, by decide⟩ ?F (fun _ _ _ _ z => z)
    intro w mg fa h Y G hmg0
    obtain ⟨K, KX, c⟩ := Y
    have hmg : mg ("law" : PySem.Str) = some (.ref fa) := by
      have e : (HandSHeadRun.topDef (OpenLaw.row PySem.Challenge.rw_bellsaway_k03_loud_moments_and_counts).prog 27).name = ("law" : PySem.Str) := by kernel_rfl
      rw [← e]
      exact hmg0
    obtain ⟨fd, hb, hF⟩ := Pr.facts (P := (PySem.Challenge.rw_bellsaway_k03_loud_moments_and_counts).prog) (w := w) KX G hmg c
    exact ⟨K, fd, Pr.sp_law K, KX, hb, fun H a ns hl _ hS => ⟨a, ns, rfl, hS, hl, fun _ => rfl⟩, hF⟩

