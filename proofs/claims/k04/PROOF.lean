import PyProof.Rows.All
import Wide.All
import OpenK.AllK
import Wide.FinOn
import KE.KStateDown
import HandS.Base
import HandS.Call
import HandS.List
import HandS.Comp
import HandS.Ends
import HandS.Dict
import HandS.Iter
import HandS.Text
import HandS.More
import HandS.Words
import HandS.WordsList
import HandS.WordsDict
import HandS.Exc
import HandS.ExcOwn
import HandS.TryOnly
import HandS.WordsExc
import HandS.Defaults
import HandS.Flow
import HandS.IsInst
import HandS.Style
import HandS.Wide
import HandS.Head0
import HandS.Head1
import HandS.Head2
import HandS.HeadEnd
import HandS.HeadHook1
import HandS.HeadHook2
import PySem.Challenge.RW_bellsaway_k04_next_minutes
set_option Elab.async false
set_option linter.all false
set_option maxRecDepth 100000
set_option maxHeartbeats 4000000
/-! ## own stepping layer: one lemma a reading -/
namespace Vs
open PySem PySem.Spec PyProof.Rows L2

/-! ### frames of heaps -/
/-- all but l stands -/
def Kp (l : Addr) (H H' : Hp) : Prop := ∀ b o, H b = some o → b ≠ l → H' b = some o
theorem Kp.refl (l : Addr) (H : Hp) : Kp l H H := fun _ _ h _ => h
theorem Kp.trans {l : Addr} {H H1 H2 : Hp} (a : Kp l H H1) (b : Kp l H1 H2) : Kp l H H2 := fun x o h n => b x o (a x o h n) n
theorem Kp.upd {l : Addr} {H H1 : Hp} {o : HO} (a : Kp l H H1) : Kp l H (upd H1 l o) := fun x u h n => by rw [upd_ne n]; exact a x u h n
theorem Kp.new {l p : Addr} {H H1 : Hp} {o : HO} (a : Kp l H H1) (hp : H1 p = none) : Kp l H (L2.upd H1 p o) := fun x u h n => by
  have h1 := a x u h n
  rw [upd_ne (ne_of_none h1 hp)]; exact h1
theorem Same.new {p : Addr} {H H1 : Hp} {o : HO} (a : Same H H1) (hp : H1 p = none) : Same H (L2.upd H1 p o) := fun x u h => by
  have h1 := a x u h
  rw [upd_ne (ne_of_none h1 hp)]; exact h1
theorem Same.kp {l : Addr} {H H1 : Hp} (a : Same H H1) : Kp l H H1 := fun x u h _ => a x u h
theorem Kp.same {l : Addr} {H H1 H2 : Hp} (a : Kp l H H1) (b : Same H1 H2) : Kp l H H2 := fun x o h n => b x o (a x o h n)
theorem Same.kpt {l : Addr} {H H1 H2 : Hp} (a : Same H H1) (b : Kp l H1 H2) : Kp l H H2 := fun x o h n => b x o (a x o h) n
theorem Kp.at {l b : Addr} {H H' : Hp} {o : HO} (k : Kp l H H') (h : H b = some o) (n : b ≠ l) : H' b = some o := k b o h n
theorem free_back {H H' : Hp} {l p : Addr} {o : HO} (k : Kp l H H') (h : H' p = none) (hl : H' l = some o) : H p = none := by
  cases e : H p with
  | none => rfl
  | some u =>
    by_cases n : p = l
    · rw [n, hl] at h; cases h
    · rw [k p u e n] at h; cases h

theorem Kp.seq {K : PySem.W.Frag} {l a : Addr} {H H' : Hp} {xs : List V} (k : Kp l H H') (n : a ≠ l) (h : SqL K H a xs) : SqL K H' a xs := by
  rcases h with (h | ⟨o, h⟩) | h
  · exact .inl (.inl (k _ _ h n))
  · exact .inl (.inr ⟨o, k _ _ h n⟩)
  · exact .inr h
theorem Kp.seqn {K : PySem.W.Frag} {l a : Addr} {H H' : Hp} {xs : List V} (k : Kp l H H') (hl : H l = none) (h : SqL K H a xs) : SqL K H' a xs := by
  rcases h with (h | ⟨o, h⟩) | h
  · exact .inl (.inl (k _ _ h (ne_of_none h hl)))
  · exact .inl (.inr ⟨o, k _ _ h (ne_of_none h hl)⟩)
  · exact .inr h
theorem Same.ofKp {l : Addr} {H H1 H2 : Hp} {o : HO} (s : Same H H1) (hl : H1 l = none) (k : Kp l (L2.upd H1 l o) H2) : Same H H2 := fun b u h => by
  have h1 := s b u h
  have n := ne_of_none h1 hl
  exact k b u (by rw [upd_ne n]; exact h1) n
/-! ### the law's list of cells -/
theorem cutV_len (xs : List V) (lo hi : Option Int) : (cutV xs lo hi).length ≤ xs.length := by
  unfold cutV
  rw [List.length_take, List.length_drop]
  omega
theorem cutV_mem {xs : List V} {lo hi : Option Int} {x : V} (h : x ∈ cutV xs lo hi) : x ∈ xs := List.mem_of_mem_drop (List.mem_of_mem_take h)
theorem cells_int {ns : List Int} {c : Int} {lo hi : Option Int} {x : V} (h : x ∈ [V.int c] ++ cutV (ns.map V.int) lo hi) : ∃ z, x = .int z := by
  rcases List.mem_append.mp h with h | h
  · exact ⟨c, by simpa using h⟩
  · obtain ⟨z, _, e⟩ := List.mem_map.mp (cutV_mem h)
    exact ⟨z, e.symm⟩
theorem cells_len {ns : List Int} {c : Int} {lo hi : Option Int} (h : ns.length ≤ 63) : [V.int c].length + (cutV (ns.map V.int) lo hi).length ≤ sizeLine := by
  have h1 := cutV_len (ns.map V.int) lo hi
  rw [List.length_map] at h1
  have h2 : (64 : Nat) ≤ sizeLine := by rw [sizeLine_eq]; decide
  simp only [List.length_cons, List.length_nil]
  omega
/-! ### readings, one step each -/
section
variable {K : PySem.W.Frag} {σ : L2.St} {H : Hp} {Q : VK} {ta tb te tc : TE} {x y v : V} {r r' : R2} {T U : TT} {B : Bool → Hp → Prop} {D : Ends} {i j : Int}
theorem r_var {n : Nat} (h : σ[n]? = some (some v)) (q : Q v H) : tVar n σ H Q := ⟨v, h, q⟩
theorem r_c (q : Q v H) : tC v σ H Q := q
theorem r_op (q : ta σ H fun x H1 => tb σ H1 fun y H2 => r x y H2 Q) : tOp r ta tb σ H Q := q
theorem r_un {r : V → Hp → VK → Prop} (q : ta σ H fun x H1 => r x H1 Q) : tUn r ta σ H Q := q
theorem r_I0 {g : Int → Int → V} (q : Q (g i j) H) : rI0 g (.int i) (.int j) H Q := ⟨i, j, rfl, rfl, q⟩
theorem r_I {C : Int → Int → Prop} {g : Int → Int → V} (c : C i j) (q : Q (g i j) H) : rI C g (.int i) (.int j) H Q := ⟨i, j, rfl, rfl, c, q⟩
theorem r_U {g : Int → V} (q : Q (g i) H) : rU g (.int i) H Q := ⟨i, rfl, q⟩
theorem r_eqI (q : Q (.bl (decide (i = j))) H) : rEq (.int i) (.int j) H Q := ⟨rfl, by
  have e : decide (V.int i = V.int j) = decide (i = j) := by simp
  rw [e]; exact q⟩
theorem r_neI (q : Q (.bl (!decide (i = j))) H) : rNe (.int i) (.int j) H Q := ⟨rfl, by
  have e : decide (V.int i = V.int j) = decide (i = j) := by simp
  rw [e]; exact q⟩
theorem r_eqB {a b : Bool} (q : Q (.bl (decide (a = b))) H) : rEq (.bl a) (.bl b) H Q := ⟨rfl, by
  have e : decide (V.bl a = V.bl b) = decide (a = b) := by simp
  rw [e]; exact q⟩
theorem r_neB {a b : Bool} (q : Q (.bl (!decide (a = b))) H) : rNe (.bl a) (.bl b) H Q := ⟨rfl, by
  have e : decide (V.bl a = V.bl b) = decide (a = b) := by simp
  rw [e]; exact q⟩
theorem r_eqS {a b : Str} (q : Q (.bl (decide (a = b))) H) : rEq (.str a) (.str b) H Q := ⟨rfl, by
  have e : decide (V.str a = V.str b) = decide (a = b) := by simp
  rw [e]; exact q⟩
theorem r_neS {a b : Str} (q : Q (.bl (!decide (a = b))) H) : rNe (.str a) (.str b) H Q := ⟨rfl, by
  have e : decide (V.str a = V.str b) = decide (a = b) := by simp
  rw [e]; exact q⟩
theorem r_test (q : te σ H fun x H1 => ∃ k, x = .bl k ∧ B k H1) : tTest te σ H B := q
theorem r_tB (q : te σ H fun x H1 => ∃ k, x = .bl k ∧ B k H1) : tB te σ H B := q
theorem r_isbl {k : Bool} {P : Bool → Prop} (q : P k) : ∃ c, V.bl k = .bl c ∧ P c := ⟨k, rfl, q⟩
theorem r_and (q : T σ H fun c H1 => if c = true then U σ H1 B else B false H1) : tAnd T U σ H B := q
theorem r_or (q : T σ H fun c H1 => if c = true then B true H1 else U σ H1 B) : tOr T U σ H B := q
theorem r_not (q : T σ H fun c H1 => B (!c) H1) : tNot T σ H B := q
theorem r_andV (q : ta σ H fun x H1 => ∃ c, x = .bl c ∧ if c = true then tb σ H1 Q else Q (.bl false) H1) : tAndV ta tb σ H Q := q
theorem r_orV (q : ta σ H fun x H1 => ∃ c, x = .bl c ∧ if c = true then Q (.bl true) H1 else tb σ H1 Q) : tOrV ta tb σ H Q := q
theorem r_notV (q : ta σ H fun x H1 => ∃ c, x = .bl c ∧ Q (.bl (!c)) H1) : tNotV ta σ H Q := q
theorem r_if (q : T σ H fun c H1 => if c = true then ta σ H1 Q else tb σ H1 Q) : tIf T ta tb σ H Q := q
theorem r_chain (q : ta σ H fun x H1 => tb σ H1 fun y H2 => r x y H2 fun z H3 => ∃ k, z = .bl k ∧ (if k = true then tc σ H3 fun w' H4 => r' y w' H4 Q else Q (.bl false) H3)) : tChain r r' ta tb tc σ H Q := q
theorem r_nil {A : List V → Hp → Prop} (q : A [] H) : tNil σ H A := q
theorem r_cons {tr : TA} {A : List V → Hp → Prop} (q : ta σ H fun x H1 => tr σ H1 fun xs H2 => A (x :: xs) H2) : tCons ta tr σ H A := q
theorem r_tup {t : TA} (q : t σ H fun xs H1 => xs.length ≤ sizeLine ∧ ∀ p, H1 p = none → Q (.ref p) (upd H1 p (.tup xs))) : tTup t σ H Q := q
theorem r_lst {t : TA} (q : t σ H fun xs H1 => xs.length ≤ sizeLine ∧ ∀ p, H1 p = none → Q (.ref p) (upd H1 p (.lst xs))) : tLst t σ H Q := q
theorem r_size {xs : List V} {P : Prop} (h : xs.length ≤ 1000) (q : P) : xs.length ≤ sizeLine ∧ P := ⟨Nat.le_trans h (by rw [sizeLine_eq]; decide), q⟩
theorem r_call {sp : Sp} {dvs : List V} {E : XK} {t : TA} (q : t σ H fun vs H1 => sp (vs ++ dvs) H1 Q E) : tCall sp dvs E t σ H Q := q
theorem r_call0 {sp : Sp} {E : XK} {t : TA} (q : t σ H fun vs H1 => sp vs H1 Q E) : tCall sp [] E t σ H Q := by
  show t σ H fun vs H1 => sp (vs ++ []) H1 Q E
  have e : (fun vs H1 => sp (vs ++ []) H1 Q E) = fun vs H1 => sp vs H1 Q E := by funext vs H1; rw [List.append_nil]
  rw [e]; exact q
theorem r_cb {r : List V → Hp → VK → Prop} {t : TA} (q : t σ H fun vs H1 => r vs H1 Q) : tCB r t σ H Q := q
theorem r_bm {T : String} {r : V → List V → Hp → VK → Prop} {t : TA} (q : ta σ H fun x H1 => tyV K T x H1 ∧ t σ H1 fun xs H2 => r x xs H2 Q) : tBM K T r ta t σ H Q := q
theorem r_bm0 {T : String} {r : V → List V → Hp → VK → Prop} (q : ta σ H fun x H1 => tyV K T x H1 ∧ r x [] H1 Q) : tBM0 K T r ta σ H Q := q
theorem r_seq {t u : TS} {nx bk ct : L2.St → Hp → Prop} {rt : VK} (q : t (Ends.mk (u (Ends.mk nx rt bk ct)) rt bk ct) σ H) : tSeq t u (Ends.mk nx rt bk ct) σ H := q
theorem r_brk {nx bk ct : L2.St → Hp → Prop} {rt : VK} (q : bk σ H) : tBreak (Ends.mk nx rt bk ct) σ H := q
theorem r_cont {nx bk ct : L2.St → Hp → Prop} {rt : VK} (q : ct σ H) : tCont (Ends.mk nx rt bk ct) σ H := q
theorem r_next {nx bk ct : L2.St → Hp → Prop} {rt : VK} (q : nx σ H) : tNext (Ends.mk nx rt bk ct) σ H := q
theorem r_drop {nx bk ct : L2.St → Hp → Prop} {rt : VK} (q : te σ H fun _ H1 => nx σ H1) : tDrop te (Ends.mk nx rt bk ct) σ H := q
theorem r_ret {nx bk ct : L2.St → Hp → Prop} {rt : VK} (q : te σ H rt) : tRet te (Ends.mk nx rt bk ct) σ H := q
theorem r_retN {nx bk ct : L2.St → Hp → Prop} {rt : VK} (q : rt .non H) : tRetN (Ends.mk nx rt bk ct) σ H := q
theorem r_ifS {t u : TS} (q : T σ H fun b H1 => if b = true then t D σ H1 else u D σ H1) : tIfS T t u D σ H := q
theorem r_asg {g : TG} {nx bk ct : L2.St → Hp → Prop} {rt : VK} (q : te σ H fun x H1 => g x σ H1 nx) : tAsg te g (Ends.mk nx rt bk ct) σ H := q
theorem r_gName {n : Nat} {P : L2.St → Hp → Prop} (q : P (σ.set n (some v)) H) : gName n v σ H P := q
theorem r_gSub {to ti : TE} {t : TSet} {P : L2.St → Hp → Prop} (q : to σ H fun o H1 => ti σ H1 fun i H2 => t o i v H2 fun H3 => P σ H3) : gSub to ti t v σ H P := q
theorem r_sl {r : V → Option Int → Option Int → Hp → VK → Prop} {tl th : TO} (q : te σ H fun x H1 => tl σ H1 fun l H2 => th σ H2 fun u H3 => r x l u H3 Q) : tSl r te tl th σ H Q := q
theorem r_noPart {P : Option Int → Hp → Prop} (q : P none H) : tNoPart σ H P := q
theorem r_part {P : Option Int → Hp → Prop} (q : te σ H fun x H1 => ∃ i, x = .int i ∧ P (some i) H1) : tPart te σ H P := q
theorem r_isint {P : Int → Prop} (q : P i) : ∃ k, V.int i = .int k ∧ P k := ⟨i, rfl, q⟩
theorem r_gTup {n : Nat} {t : TGs} {a : Addr} {xs : List V} {P : L2.St → Hp → Prop} (h : SqT K H a xs) (e : xs.length = n) (q : t xs σ H P) : gTup K n t (.ref a) σ H P := ⟨a, xs, rfl, h, e, q⟩
theorem r_gCons {t : TG} {u : TGs} {vs : List V} {P : L2.St → Hp → Prop} (q : t v σ H fun σ' H' => u vs σ' H' P) : gCons t u (v :: vs) σ H P := ⟨v, vs, rfl, q⟩
theorem r_gNil {P : L2.St → Hp → Prop} (q : P σ H) : gNil [] σ H P := ⟨rfl, q⟩
theorem ite_t {A B : Prop} (h : A) : if true = true then A else B := by rw [if_pos rfl]; exact h
theorem ite_f {A B : Prop} (h : B) : if false = true then A else B := by rw [if_neg Bool.false_ne_true]; exact h
theorem ite_nt {A B : Prop} (h : B) : if (!true) = true then A else B := ite_f h
theorem ite_nf {A B : Prop} (h : A) : if (!false) = true then A else B := ite_t h
theorem ite_y {p : Prop} {i : Decidable p} {A B : Prop} (hp : p) (h : A) : if decide p = true then A else B := by rw [decide_eq_true hp]; exact ite_t h
theorem ite_n {p : Prop} {i : Decidable p} {A B : Prop} (hp : ¬ p) (h : B) : if decide p = true then A else B := by rw [decide_eq_false hp]; exact ite_f h
theorem ite_ny {p : Prop} {i : Decidable p} {A B : Prop} (hp : p) (h : B) : if (!decide p) = true then A else B := by rw [decide_eq_true hp]; exact ite_f h
theorem ite_nn {p : Prop} {i : Decidable p} {A B : Prop} (hp : ¬ p) (h : A) : if (!decide p) = true then A else B := by rw [decide_eq_false hp]; exact ite_t h
theorem ite_d {p : Prop} {i : Decidable p} {A B : Prop} (h1 : p → A) (h2 : ¬ p → B) : if decide p = true then A else B := by
  by_cases h : p
  · exact ite_y h (h1 h)
  · exact ite_n h (h2 h)
theorem ite_nd {p : Prop} {i : Decidable p} {A B : Prop} (h1 : ¬ p → A) (h2 : p → B) : if (!decide p) = true then A else B := by
  by_cases h : p
  · exact ite_ny h (h2 h)
  · exact ite_nn h (h1 h)
theorem upd2 {H : Hp} {a : Addr} {o u : HO} : upd (upd H a o) a u = upd H a u := upd_upd
theorem upd_id {H : Hp} {a : Addr} {o : HO} (h : H a = some o) : upd H a o = H := by
  funext b
  by_cases hb : b = a
  · rw [hb, upd_same, h]
  · rw [upd_ne hb]
theorem q_t {Q : VK} {H : Hp} {p : Prop} {i : Decidable p} (hp : p) (q : Q (.bl true) H) : Q (.bl (@decide p i)) H := by rw [decide_eq_true hp]; exact q
theorem ite_bt {b : Bool} {A B : Prop} (h : b = true) (q : A) : if b = true then A else B := by rw [h]; exact ite_t q
theorem ite_bf {b : Bool} {A B : Prop} (h : b = false) (q : B) : if b = true then A else B := by rw [h]; exact ite_f q
theorem q_bl {Q : VK} {H : Hp} {b c : Bool} (h : b = c) (q : Q (.bl b) H) : Q (.bl c) H := h ▸ q
theorem ite_b {b : Bool} {A B : Prop} (h1 : b = true → A) (h2 : b = false → B) : if b = true then A else B := by
  cases b
  · exact ite_f (h2 rfl)
  · exact ite_t (h1 rfl)
/-! items -/
theorem r_ixL {p : Addr} {xs : List V} (h : SqL K H p xs) (ha : atI xs i = some v) (q : Q v H) : rIx K (.ref p) (.int i) H Q := .inl ⟨p, xs, i, v, rfl, rfl, h, ha, q⟩
theorem r_ixT {p : Addr} {xs : List V} (h : SqT K H p xs) (ha : atI xs i = some v) (q : Q v H) : rIx K (.ref p) (.int i) H Q := .inr (.inl ⟨p, xs, i, v, rfl, rfl, h, ha, q⟩)
theorem r_ixS {z : Str} {c : Nat} (h : z.length ≤ sizeLine) (ha : atI z.cps.toList i = some c) (q : Q (.str ⟨#[c]⟩) H) : rIx K (.str z) (.int i) H Q := .inr (.inr ⟨z, i, c, rfl, rfl, h, ha, q⟩)
theorem r_setL {p : Addr} {xs : List V} {n : Nat} {P : Hp → Prop} (h : H p = some (.lst xs)) (e : ixN xs.length i = some n) (q : P (upd H p (.lst (xs.set n v)))) : rSetL (.ref p) (.int i) v H P := ⟨p, xs, i, n, rfl, rfl, h, e, q⟩
theorem r_slL {p : Addr} {xs : List V} {lo hi : Option Int} (h : SqL K H p xs) (q : ∀ a, H a = none → Q (.ref a) (upd H a (.lst (cutV xs lo hi)))) : rSlL K (.ref p) lo hi H Q := ⟨p, xs, rfl, h, q⟩
theorem r_cat {p b : Addr} {xs ys : List V} (h : H p = some (.lst xs)) (h2 : H b = some (.lst ys)) (hl : xs.length + ys.length ≤ sizeLine) (q : ∀ a, H a = none → Q (.ref a) (upd H a (.lst (xs ++ ys)))) : rCat (.ref p) (.ref b) H Q := ⟨p, b, xs, ys, rfl, rfl, h, h2, hl, q⟩
theorem r_app {p : Addr} {xs : List V} (h : H p = some (.lst xs)) (hl : xs.length < sizeLine) (q : Q .non (upd H p (.lst (xs ++ [v])))) : rAppend (.ref p) [v] H Q := ⟨p, xs, v, rfl, rfl, h, hl, q⟩
theorem r_tyl {p : Addr} {xs : List V} {P : Prop} (h : H p = some (.lst xs)) (q : P) : tyV K "list" (.ref p) H ∧ P := ⟨Or.inl ⟨rfl, _, Or.inl (Or.inl h)⟩, q⟩
theorem r_isB {a b : Bool} (q : Q (.bl (decide (a = b))) H) : rIsB (.bl a) (.bl b) H Q := ⟨a, b, rfl, rfl, q⟩
theorem r_notB {a b : Bool} (q : Q (.bl (!decide (a = b))) H) : rNotB (.bl a) (.bl b) H Q := ⟨a, b, rfl, rfl, q⟩
theorem r_rep {p : Addr} {xs : List V} (h : H p = some (.lst xs)) (h0 : 0 ≤ i) (h1 : i ≤ 100000) (hl : xs.length * i.toNat ≤ sizeLine) (q : ∀ a, H a = none → Q (.ref a) (upd H a (.lst ((List.replicate i.toNat xs).flatten)))) : rRep (.ref p) (.int i) H Q := ⟨p, i, xs, rfl, rfl, h, by omega, by omega, hl, q⟩
/-! data compared -/
theorem r_eqDe {d e : PyData} (hx : Dp K H x d) (hy : Dp K H y e) (sd : SeqAt.shaped d = true) (h : d = e) (q : Q (.bl true) H) : rEqD K x y H Q := ⟨d, e, hx, hy, sd, h ▸ sd, by rw [← h, SeqAt.eqv_refl _ (SeqAt.canLay_of_shaped sd)]; exact q⟩
theorem r_neDe {d e : PyData} (hx : Dp K H x d) (hy : Dp K H y e) (sd : SeqAt.shaped d = true) (h : d = e) (q : Q (.bl false) H) : rNeD K x y H Q := ⟨d, e, hx, hy, sd, h ▸ sd, by rw [← h, SeqAt.eqv_refl _ (SeqAt.canLay_of_shaped sd)]; exact q⟩
/-! built-ins by name -/
def rInt1 : List V → Hp → VK → Prop := fun xs H Q => (∃ i, xs = [.int i] ∧ Q (.int i) H) ∨ ∃ k : Bool, xs = [.bl k] ∧ Q (.int (if k then 1 else 0)) H
def rDivmod : List V → Hp → VK → Prop := fun xs H Q => ∃ i j, xs = [.int i, .int j] ∧ CDiv i j ∧ ∀ p, H p = none → Q (.ref p) (upd H p (.tup [.int (i / j), .int (i % j)]))
def rMin2 : List V → Hp → VK → Prop := fun xs H Q => ∃ i j : Int, xs = [.int i, .int j] ∧ Q (.int (if j < i then j else i)) H
def rMax2 : List V → Hp → VK → Prop := fun xs H Q => ∃ i j : Int, xs = [.int i, .int j] ∧ Q (.int (if j > i then j else i)) H
def rAddS : R2 := fun x y H Q => ∃ i j, x = .str i ∧ y = .str j ∧ i.length + j.length ≤ sizeLine ∧ Q (.str (i ++ j)) H
def rIsN : R2 := fun x y H Q => y = .non ∧ Q (.bl (decide (x = .non))) H
def rNotN : R2 := fun x y H Q => y = .non ∧ Q (.bl (!decide (x = .non))) H
def tTru (K : PySem.W.Frag) (ta : TE) : TT := fun σ H Q => ta σ H fun x H' => ∃ k, TruV K x H' k ∧ Q k H'
theorem r_min2 (q : Q (.int (if j < i then j else i)) H) : rMin2 [.int i, .int j] H Q := ⟨i, j, rfl, q⟩
theorem r_max2 (q : Q (.int (if j > i then j else i)) H) : rMax2 [.int i, .int j] H Q := ⟨i, j, rfl, q⟩
theorem r_lenL {p : Addr} {xs : List V} (h : SqL K H p xs) (q : Q (.int (xs.length : Nat)) H) : rLen K [.ref p] H Q := ⟨_, _, rfl, .inl ⟨_, h, rfl⟩, q⟩
theorem r_lenT {p : Addr} {xs : List V} (h : SqT K H p xs) (q : Q (.int (xs.length : Nat)) H) : rLen K [.ref p] H Q := ⟨_, _, rfl, .inr ⟨_, h, rfl⟩, q⟩
theorem r_lenS {z : Str} (h : z.length ≤ sizeLine) (q : Q (.int (z.length : Nat)) H) : rLen K [.str z] H Q := ⟨_, _, rfl, ⟨h, rfl⟩, q⟩
theorem r_int1i (q : Q (.int i) H) : rInt1 [.int i] H Q := .inl ⟨_, rfl, q⟩
theorem r_int1b {b : Bool} (q : Q (.int (if b then 1 else 0)) H) : rInt1 [.bl b] H Q := .inr ⟨_, rfl, q⟩
theorem r_divmod (c : CDiv i j) (q : ∀ p, H p = none → Q (.ref p) (upd H p (.tup [.int (i / j), .int (i % j)]))) : rDivmod [.int i, .int j] H Q := ⟨i, j, rfl, c, q⟩
theorem r_isi {a b : String} {c : Bool} (ty : TyX K H x (.type a)) (h : kitB a b = some c) (q : Q (.bl c) H) : rIsi K [x, .ty b] H Q := ⟨x, _, _, _, c, rfl, .ty b, ty, kit_ty h, q⟩
theorem r_isN (q : Q (.bl (decide (x = .non))) H) : rIsN x .non H Q := ⟨rfl, q⟩
theorem r_notN (q : Q (.bl (!decide (x = .non))) H) : rNotN x .non H Q := ⟨rfl, q⟩
theorem r_tru {b : Bool} (h : te σ H fun x H1 => ∃ k, TruV K x H1 k ∧ B k H1) : tTru K te σ H B := h
end
theorem pe_pow2 {X : Cx} {a b r : Int} {j j' p p' pos} (h : a ^ b.toNat = r) (hc : CPow a b) : PE X (.BinOp (.Constant (.int a) j p) .Pow (.Constant (.int b) j' p') pos) (tC (.int r)) :=
  ⟨fun pins s σ H Q I hq => (pe_op op_pow pe_int pe_int).run pins s σ H Q I ⟨a, b, rfl, rfl, hc, (show Q (.int (a ^ b.toNat)) H from by rw [h]; exact hq)⟩⟩
/-! ### loops -/
section
variable {K : PySem.W.Frag} {σ : L2.St} {H : Hp} {D : Ends} {g : TG} {tb : TS} {ta : TA} {te : TE} {wi : TI} {R : It → Hp → Prop}
def ForW (J : It) (g : TG) (tb : TS) (D : Ends) (σ : L2.St) (H1 : Hp) : Prop := ∃ W : Nat → Nat → L2.St → Hp → Prop, (∃ m, W 0 m σ H1) ∧ ∀ i m σ H, W i m σ H →
  (J.stop i H ∧ D.nx σ H) ∨ (J.go i H ∧ ∃ N : L2.St → Hp → Prop, (∀ σ' H', N σ' H' → ∃ m', m' < m ∧ W (i + 1) m' σ' H') ∧ ∀ x H', J.yld i H x H' → g x σ H' fun σ2 H2 => tb { D with nx := N, ct := N, bk := D.nx } σ2 H2)
theorem r_for (q : wi σ H fun J H1 => ForW J g tb D σ H1) : tFor wi g tb D σ H := q
section
variable {nx bk ct : L2.St → Hp → Prop} {rt : VK}
/-- over a list that stands; what follows a turn is a letter -/
theorem r_loopL {p : Addr} {xs : List V} (Pv : Nat → L2.St → Hp → Prop) (hx : SqL K H p xs) (h0 : Pv 0 σ H) (hl : ∀ i σ' H', Pv i σ' H' → SqL K H' p xs)
    (hs : ∀ (i : Nat) (x : V) (σ' : L2.St) (H' : Hp) (N : L2.St → Hp → Prop), xs[i]? = some x → Pv i σ' H' → (∀ σ2 H2, Pv (i + 1) σ2 H2 → N σ2 H2) → g x σ' H' fun σ2 H2 => tb (Ends.mk N rt nx N) σ2 H2)
    (hd : ∀ σ' H', Pv xs.length σ' H' → nx σ' H') : ∃ a, V.ref p = .ref a ∧ (∃ xs, SqL K H a xs) ∧ ForW (Itl K a) g tb (Ends.mk nx rt bk ct) σ H :=
  ⟨p, rfl, ⟨xs, hx⟩, for_list (D := Ends.mk nx rt bk ct) Pv h0 (fun i σ' H' _ p => hl i σ' H' p) (fun i x σ' H' hi p => hs i x σ' H' _ hi p fun _ _ z => z) hd⟩
theorem r_loopT {p : Addr} {xs : List V} (Pv : Nat → L2.St → Hp → Prop) (hx : SqT K H p xs) (h0 : Pv 0 σ H) (hl : ∀ i σ' H', Pv i σ' H' → SqT K H' p xs)
    (hs : ∀ (i : Nat) (x : V) (σ' : L2.St) (H' : Hp) (N : L2.St → Hp → Prop), xs[i]? = some x → Pv i σ' H' → (∀ σ2 H2, Pv (i + 1) σ2 H2 → N σ2 H2) → g x σ' H' fun σ2 H2 => tb (Ends.mk N rt nx N) σ2 H2)
    (hd : ∀ σ' H', Pv xs.length σ' H' → nx σ' H') : ∃ a, V.ref p = .ref a ∧ (∃ xs, SqT K H a xs) ∧ ForW (Itt K a) g tb (Ends.mk nx rt bk ct) σ H :=
  ⟨p, rfl, ⟨xs, hx⟩, for_tup (D := Ends.mk nx rt bk ct) Pv h0 (fun i σ' H' _ p => hl i σ' H' p) (fun i x σ' H' hi p => hs i x σ' H' _ hi p fun _ _ z => z) hd⟩
theorem r_loopR1 {j : Int} (Pv : Nat → L2.St → Hp → Prop) (b : -1000000000 ≤ j ∧ j ≤ 1000000000) (h0 : Pv 0 σ H)
    (hs : ∀ (i : Nat) (σ' : L2.St) (H' : Hp) (N : L2.St → Hp → Prop), i < j.toNat → Pv i σ' H' → (∀ σ2 H2, Pv (i + 1) σ2 H2 → N σ2 H2) → g (.int (i : Int)) σ' H' fun σ2 H2 => tb (Ends.mk N rt nx N) σ2 H2)
    (hd : ∀ σ' H', Pv j.toNat σ' H' → nx σ' H') : ∃ k : Int, [V.int j] = [.int k] ∧ -(2 ^ 62) ≤ k ∧ k < 2 ^ 62 ∧ ForW (Itr 0 k.toNat) g tb (Ends.mk nx rt bk ct) σ H :=
  ⟨j, rfl, by omega, by omega, for_range (D := Ends.mk nx rt bk ct) Pv h0 (fun i σ' H' hi p => by
    have e : (0 : Int) + (i : Int) = (i : Int) := Int.zero_add _
    rw [e]
    exact hs i σ' H' _ hi p fun _ _ z => z) hd⟩
theorem r_loopR2 {a j : Int} (Pv : Nat → L2.St → Hp → Prop) (b : -1000000000 ≤ a ∧ a ≤ 1000000000 ∧ -1000000000 ≤ j ∧ j ≤ 1000000000) (h0 : Pv 0 σ H)
    (hs : ∀ (i : Nat) (σ' : L2.St) (H' : Hp) (N : L2.St → Hp → Prop), i < (j - a).toNat → Pv i σ' H' → (∀ σ2 H2, Pv (i + 1) σ2 H2 → N σ2 H2) → g (.int (a + (i : Int))) σ' H' fun σ2 H2 => tb (Ends.mk N rt nx N) σ2 H2)
    (hd : ∀ σ' H', Pv (j - a).toNat σ' H' → nx σ' H') : ∃ k l : Int, [V.int a, V.int j] = [.int k, .int l] ∧ (-(2 ^ 62) ≤ k ∧ k < 2 ^ 62 ∧ -(2 ^ 62) ≤ l ∧ l < 2 ^ 62) ∧ ForW (Itr k (l - k).toNat) g tb (Ends.mk nx rt bk ct) σ H :=
  ⟨a, j, rfl, ⟨by omega, by omega, by omega, by omega⟩, for_range (D := Ends.mk nx rt bk ct) Pv h0 (fun i σ' H' hi p => hs i σ' H' _ hi p fun _ _ z => z) hd⟩
end
theorem r_iList (q : te σ H fun x H1 => ∃ a, x = .ref a ∧ (∃ xs, SqL K H1 a xs) ∧ R (Itl K a) H1) : iList K te σ H R := q
theorem r_iTup (q : te σ H fun x H1 => ∃ a, x = .ref a ∧ (∃ xs, SqT K H1 a xs) ∧ R (Itt K a) H1) : iTup K te σ H R := q
theorem r_iRng1 (q : ta σ H fun vs H1 => ∃ j : Int, vs = [.int j] ∧ -(2 ^ 62) ≤ j ∧ j < 2 ^ 62 ∧ R (Itr 0 j.toNat) H1) : iRng1 ta σ H R := q
theorem r_iRng2 (q : ta σ H fun vs H1 => ∃ i j : Int, vs = [.int i, .int j] ∧ (-(2 ^ 62) ≤ i ∧ i < 2 ^ 62 ∧ -(2 ^ 62) ≤ j ∧ j < 2 ^ 62) ∧ R (Itr i (j - i).toNat) H1) : iRng2 ta σ H R := q
end
/-! ### ranges by a step -/
theorem rg_up {a b c : Int} (h1 : 1 ≤ c) (h2 : c ≤ 1000000) (ha : -1000000000 ≤ a) (ha' : a ≤ 1000000000) (hb : -1000000000 ≤ b) (hb' : b ≤ 1000000000) : RgC a b c (if a < b then ((b - a - 1) / c + 1).toNat else 0) := by
  have hc : c > 0 := by omega
  have e : Builtin.Range.rangeSize a b c = if a < b then (b - a - 1) / c + 1 else 0 := by
    unfold Builtin.Range.rangeSize
    rw [if_pos hc]
  by_cases hab : a < b
  · have q0 : 0 ≤ (b - a - 1) / c := Int.ediv_nonneg (by omega) (by omega)
    have q1 : (b - a - 1) / c ≤ b - a - 1 := Int.ediv_le_self _ (by omega)
    have q2 : (b - a - 1) / c * c ≤ b - a - 1 := Int.ediv_mul_le _ (by omega)
    rw [if_pos hab] at e ⊢
    refine ⟨by omega, by omega, ?_, ?_⟩
    · unfold Builtin.Range.small
      rw [e]
      have q3 : ((b - a - 1) / c + 1) * c = (b - a - 1) / c * c + c := by rw [Int.add_mul, Int.one_mul]
      have q4 : ((b - a - 1) / c + 1 - 1) * c = (b - a - 1) / c * c := by rw [Int.add_sub_cancel]
      have q5 : 0 ≤ (b - a - 1) / c * c := Int.mul_nonneg q0 (by omega)
      simp only [Builtin.Range.rangeFitsLong, Bool.and_eq_true, Bool.or_eq_true, decide_eq_true_eq, beq_iff_eq, hc, if_true]
      first | omega | (simp only [q3, q4]; omega) | (split <;> omega)
    · rw [e]; omega
  · rw [if_neg hab] at e ⊢
    refine ⟨by omega, by omega, ?_, ?_⟩
    · unfold Builtin.Range.small
      rw [e]
      simp only [Builtin.Range.rangeFitsLong, Bool.and_eq_true, Bool.or_eq_true, decide_eq_true_eq, beq_iff_eq, hc, if_true]
      first | omega | (split <;> omega) | simp <;> omega
    · rw [e]; rfl
/-! ### comprehensions whose elements leave the heap -/
section
variable {K : PySem.W.Frag} {σ : L2.St} {H : Hp} {Q : VK} {g : TG} {tt : TT} {te : TE} {wi : TI} {ws : List Nat}
def LcW (J : It) (g : TG) (tt : TT) (te : TE) (vs : List Nat) (σ : L2.St) (H1 : Hp) (Q : VK) : Prop := ∀ D, H1 D = none → ∃ W : Nat → Nat → Hp → Prop, (∃ m, W 0 m (upd H1 D (.lst []))) ∧ ∀ i m H, W i m H →
  (J.stop i H ∧ Q (.ref D) H) ∨ (J.go i H ∧ ∃ Nx : Hp → Prop, (∀ H', Nx H' → ∃ m', m' < m ∧ W (i + 1) m' H') ∧ ∀ x H', J.yld i H x H' → g x (wipe σ vs) H' fun σ2 H2 => wipe σ2 vs = wipe σ vs ∧ tt σ2 H2 fun b H3 =>
    if b = true then te σ2 H3 fun y H4 => ∃ acc, H4 D = some (.lst acc) ∧ acc.length < sizeLine ∧ Nx (upd H4 D (.lst (acc ++ [y]))) else Nx H3)
theorem r_lc (q : wi σ H fun J H1 => LcW J g tt te ws σ H1 Q) : tLc wi g tt te ws σ H Q := q
theorem map_step {xs : List V} {f : V → V} {i : Nat} {x : V} (h : xs[i]? = some x) : (xs.take i).map f ++ [f x] = (xs.take (i + 1)).map f := by
  have hl : i < xs.length := (List.getElem?_eq_some_iff.mp h).1
  have e : xs.take (i + 1) = xs.take i ++ [x] := by
    rw [List.take_add_one, h]; rfl
  rw [e, List.map_append]; rfl
/-- over a list, no test -/
theorem r_lcP {j : Nat} {p : Addr} {xs : List V} (f : V → V) (hx : SqL K H p xs) (hz : xs.length ≤ 100000) (hw : ∀ x, wipe ((wipe σ ws).set j (some x)) ws = wipe σ ws)
    (he : ∀ (x : V) (D : Addr) (acc : List V) (Q' : VK), x ∈ xs → H D = none → Q' (f x) (upd H D (.lst acc)) → te ((wipe σ ws).set j (some x)) (upd H D (.lst acc)) Q') (q : ∀ D, H D = none → Q (.ref D) (upd H D (.lst (xs.map f)))) :
    ∃ a, V.ref p = .ref a ∧ (∃ xs, SqL K H a xs) ∧ LcW (Itl K a) (gName j) tYes te ws σ H Q := by
  refine ⟨p, rfl, ⟨xs, hx⟩, fun D hD => lc_list (K := K) (a := p) (xs := xs) (fun i H' => H' = upd H D (.lst ((xs.take i).map f))) (by simp) (fun i H' _ e => ?_) (fun i x H' hi e => ?_) (fun H' e => ?_)⟩
  · rw [e]; exact Same.seq (Same.new (Same.refl H) hD) hx
  · subst e
    refine ⟨hw x, ?_⟩
    show te _ _ _
    refine he x D _ _ (List.mem_of_getElem? hi) hD ⟨_, upd_same, ?_, ?_⟩
    · rw [List.length_map, List.length_take]
      have h2 : (100000 : Nat) < sizeLine := by rw [sizeLine_eq]; decide
      omega
    · rw [upd2, map_step hi]
  · subst e
    rw [List.take_length]
    exact q D hD
theorem r_lcPT {j : Nat} {p : Addr} {xs : List V} (f : V → V) (hx : SqT K H p xs) (hz : xs.length ≤ 100000) (hw : ∀ x, wipe ((wipe σ ws).set j (some x)) ws = wipe σ ws)
    (he : ∀ (x : V) (D : Addr) (acc : List V) (Q' : VK), x ∈ xs → H D = none → Q' (f x) (upd H D (.lst acc)) → te ((wipe σ ws).set j (some x)) (upd H D (.lst acc)) Q') (q : ∀ D, H D = none → Q (.ref D) (upd H D (.lst (xs.map f)))) :
    ∃ a, V.ref p = .ref a ∧ (∃ xs, SqT K H a xs) ∧ LcW (Itt K a) (gName j) tYes te ws σ H Q := by
  refine ⟨p, rfl, ⟨xs, hx⟩, fun D hD => lc_tup (K := K) (a := p) (xs := xs) (fun i H' => H' = upd H D (.lst ((xs.take i).map f))) (by simp) (fun i H' _ e => ?_) (fun i x H' hi e => ?_) (fun H' e => ?_)⟩
  · rw [e]
    rcases hx with (h | ⟨o, h⟩) | h
    · exact .inl (.inl (Same.new (Same.refl H) hD _ _ h))
    · exact .inl (.inr ⟨o, Same.new (Same.refl H) hD _ _ h⟩)
    · exact .inr h
  · subst e
    refine ⟨hw x, ?_⟩
    show te _ _ _
    refine he x D _ _ (List.mem_of_getElem? hi) hD ⟨_, upd_same, ?_, ?_⟩
    · rw [List.length_map, List.length_take]
      have h2 : (100000 : Nat) < sizeLine := by rw [sizeLine_eq]; decide
      omega
    · rw [upd2, map_step hi]
  · subst e
    rw [List.take_length]
    exact q D hD
theorem r_all {p : Addr} {bs : List Bool} (h : SqL K H p (bs.map V.bl)) (q : Q (.bl (bs.all id)) H) : rAll K [.ref p] H Q := ⟨p, bs, rfl, h, q⟩
theorem r_any {p : Addr} {bs : List Bool} (h : SqL K H p (bs.map V.bl)) (q : Q (.bl (bs.any id)) H) : rAny K [.ref p] H Q := ⟨p, bs, rfl, h, q⟩
end
/-! ### while -/
section
variable {σ : L2.St} {H : Hp} {c : TT} {tb : TS} {nx bk ct : L2.St → Hp → Prop} {rt : VK}
/-- what is wanted behind a while's test -/
def WhB (W : Nat → L2.St → Hp → Prop) (m : Nat) (tb : TS) (nx : L2.St → Hp → Prop) (rt : VK) (b : Bool) (σ : L2.St) (H : Hp) : Prop :=
  if b = true then ∃ N : L2.St → Hp → Prop, (∀ σ' H', N σ' H' → ∃ m', m' < m ∧ W m' σ' H') ∧ tb (Ends.mk N rt nx N) σ H else nx σ H
theorem whB {W : Nat → L2.St → Hp → Prop} {m : Nat} {b : Bool} (h1 : b = true → ∀ N : L2.St → Hp → Prop, (∀ m' σ2 H2, m' < m → W m' σ2 H2 → N σ2 H2) → tb (Ends.mk N rt nx N) σ H) (h2 : b = false → nx σ H) : WhB W m tb nx rt b σ H := by
  cases b with
  | true => exact ite_t ⟨_, fun _ _ z => z, h1 rfl _ fun m' σ2 H2 a b => ⟨m', a, b⟩⟩
  | false => exact ite_f (h2 rfl)
theorem r_while (W : Nat → L2.St → Hp → Prop) (m0 : Nat) (h0 : W m0 σ H)
    (hs : ∀ (m : Nat) (σ' : L2.St) (H' : Hp), W m σ' H' → c σ' H' fun b H1 => WhB W m tb nx rt b σ' H1) : tWhile c tb (Ends.mk nx rt bk ct) σ H := ⟨W, ⟨m0, h0⟩, hs⟩
end
theorem r_iRng3 {σ : L2.St} {H : Hp} {ta : TA} {R : It → Hp → Prop} (q : ta σ H fun vs H1 => ∃ (i j c : Int) (n : Nat), vs = [.int i, .int j, .int c] ∧ RgC i j c n ∧ R (Itc i c n) H1) : iRng3 ta σ H R := q
theorem r_loopR3 {σ : L2.St} {H : Hp} {g : TG} {tb : TS} {nx bk ct : L2.St → Hp → Prop} {rt : VK} {a b c : Int} (Pv : Nat → L2.St → Hp → Prop) (h1 : 1 ≤ c ∧ c ≤ 1000000) (ha : -1000000000 ≤ a ∧ a ≤ 1000000000) (hb : -1000000000 ≤ b ∧ b ≤ 1000000000) (h0 : Pv 0 σ H)
    (hs : ∀ (i : Nat) (σ' : L2.St) (H' : Hp) (N : L2.St → Hp → Prop), i < (if a < b then ((b - a - 1) / c + 1).toNat else 0) → Pv i σ' H' → (∀ σ2 H2, Pv (i + 1) σ2 H2 → N σ2 H2) → g (.int (a + (i : Nat) * c)) σ' H' fun σ2 H2 => tb (Ends.mk N rt nx N) σ2 H2)
    (hd : ∀ σ' H', Pv (if a < b then ((b - a - 1) / c + 1).toNat else 0) σ' H' → nx σ' H') :
    ∃ (i j k : Int) (n : Nat), [V.int a, V.int b, V.int c] = [.int i, .int j, .int k] ∧ RgC i j k n ∧ ForW (Itc i k n) g tb (Ends.mk nx rt bk ct) σ H :=
  ⟨a, b, c, _, rfl, rg_up h1.1 h1.2 ha.1 ha.2 hb.1 hb.2, for_rangeC (D := Ends.mk nx rt bk ct) Pv h0 (fun i σ' H' hi p => hs i σ' H' _ hi p fun _ _ z => z) hd⟩
/-! ### tests that leave the heap: what they tell as one proposition -/
def Pu (T : TT) (σ : L2.St) (H : Hp) (p : Prop) : Prop := ∃ b : Bool, (b = true ↔ p) ∧ ∀ B : Bool → Hp → Prop, B b H → T σ H B
section
variable {σ : L2.St} {H : Hp} {T U : TT} {p q : Prop} {D : Ends} {t u : TS} {ta tb : TE} {Q : VK}
theorem pu_and (h1 : Pu T σ H p) (h2 : p → Pu U σ H q) : Pu (tAnd T U) σ H (p ∧ q) := by
  obtain ⟨b, e, h1⟩ := h1
  cases b with
  | false => exact ⟨false, ⟨fun z => (nomatch z), fun z => e.mpr z.1⟩, fun B hB => h1 _ (ite_f hB)⟩
  | true =>
    obtain ⟨c, e2, h2⟩ := h2 (e.mp rfl)
    exact ⟨c, ⟨fun z => ⟨e.mp rfl, e2.mp z⟩, fun z => e2.mpr z.2⟩, fun B hB => h1 _ (ite_t (h2 _ hB))⟩
theorem pu_or (h1 : Pu T σ H p) (h2 : ¬ p → Pu U σ H q) : Pu (tOr T U) σ H (p ∨ q) := by
  obtain ⟨b, e, h1⟩ := h1
  cases b with
  | true => exact ⟨true, ⟨fun _ => .inl (e.mp rfl), fun _ => rfl⟩, fun B hB => h1 _ (ite_t hB)⟩
  | false =>
    have hn : ¬ p := fun z => nomatch e.mpr z
    obtain ⟨c, e2, h2⟩ := h2 hn
    exact ⟨c, ⟨fun z => .inr (e2.mp z), fun z => z.elim (fun y => absurd y hn) e2.mpr⟩, fun B hB => h1 _ (ite_f (h2 _ hB))⟩
theorem pu_not (h1 : Pu T σ H p) : Pu (tNot T) σ H (¬ p) := by
  obtain ⟨b, e, h1⟩ := h1
  refine ⟨!b, ?_, fun B hB => h1 _ hB⟩
  cases b
  · exact ⟨fun _ z => (nomatch e.mpr z), fun _ => rfl⟩
  · exact ⟨fun z => (nomatch z), fun z => absurd (e.mp rfl) z⟩
theorem dec_n {i : Decidable p} : (!(@decide p i)) = true ↔ ¬ p := by
  cases i with
  | isTrue y => exact ⟨fun z => (nomatch z), fun n => absurd y n⟩
  | isFalse y => exact ⟨fun _ => y, fun _ => rfl⟩
theorem pu_x (h : False) : Pu T σ H True := h.elim
theorem pu_d {i : Decidable p} (h : ∀ B : Bool → Hp → Prop, B (@decide p i) H → T σ H B) : Pu T σ H p := ⟨@decide p i, ⟨of_decide_eq_true, decide_eq_true⟩, h⟩
theorem pu_n {i : Decidable p} (h : ∀ B : Bool → Hp → Prop, B (!(@decide p i)) H → T σ H B) : Pu T σ H (¬ p) := ⟨!(@decide p i), dec_n, h⟩
theorem pu_b {b : Bool} (h : ∀ B : Bool → Hp → Prop, B b H → T σ H B) : Pu T σ H (b = true) := ⟨b, Iff.rfl, h⟩
theorem pu_nb {b : Bool} (h : ∀ B : Bool → Hp → Prop, B (!b) H → T σ H B) : Pu T σ H (b = false) := ⟨!b, by cases b <;> decide, h⟩
theorem r_ifP (hT : Pu T σ H p) (h1 : p → t D σ H) (h2 : ¬ p → u D σ H) : tIfS T t u D σ H := by
  obtain ⟨b, e, h⟩ := hT
  cases b with
  | true => exact h _ (ite_t (h1 (e.mp rfl)))
  | false => exact h _ (ite_f (h2 fun z => nomatch e.mpr z))
theorem r_tifP (hT : Pu T σ H p) (h1 : p → ta σ H Q) (h2 : ¬ p → tb σ H Q) : tIf T ta tb σ H Q := by
  obtain ⟨b, e, h⟩ := hT
  cases b with
  | true => exact h _ (ite_t (h1 (e.mp rfl)))
  | false => exact h _ (ite_f (h2 fun z => nomatch e.mpr z))
theorem r_ifPy (hT : Pu T σ H p) (hp : p) (h1 : t D σ H) : tIfS T t u D σ H := r_ifP hT (fun _ => h1) fun n => absurd hp n
theorem r_ifPn (hT : Pu T σ H p) (hp : ¬ p) (h1 : u D σ H) : tIfS T t u D σ H := r_ifP hT (fun n => absurd n hp) fun _ => h1
theorem r_tifPy (hT : Pu T σ H p) (hp : p) (h1 : ta σ H Q) : tIf T ta tb σ H Q := r_tifP hT (fun _ => h1) fun n => absurd hp n
theorem r_tifPn (hT : Pu T σ H p) (hp : ¬ p) (h1 : tb σ H Q) : tIf T ta tb σ H Q := r_tifP hT (fun n => absurd n hp) fun _ => h1
end
end Vs

open PySem PySem.Spec PyProof.Rows L2 Vs
namespace Vs
theorem Same.at {H H' : Hp} {b : Addr} {o : HO} (k : Same H H') (h : H b = some o) : H' b = some o := k b o h
/-- a written place of a written list -/
theorem ix_some {xs : List V} {i : Int} {n : Nat} {v : V} (e : i = (n : Int)) (h : xs[n]? = some v) : atI xs i = some v := by rw [e]; exact atI_nat h
theorem r_ixA {K : PySem.W.Frag} {H : Hp} {Q : VK} {i : Int} {p : Addr} {xs : List V} (P : V → Prop) (h : SqL K H p xs) (h0 : 0 ≤ i) (h1 : i < (xs.length : Int)) (hP : ∀ v ∈ xs, P v) (q : ∀ v, P v → Q v H) : rIx K (.ref p) (.int i) H Q := by
  have hl : i.toNat < xs.length := by omega
  have hg : xs[i.toNat]? = some xs[i.toNat] := List.getElem?_eq_getElem hl
  exact r_ixL h (ix_some (n := i.toNat) (by omega) hg) (q _ (hP _ (List.getElem_mem hl)))
theorem r_ixAT {K : PySem.W.Frag} {H : Hp} {Q : VK} {i : Int} {p : Addr} {xs : List V} (P : V → Prop) (h : SqT K H p xs) (h0 : 0 ≤ i) (h1 : i < (xs.length : Int)) (hP : ∀ v ∈ xs, P v) (q : ∀ v, P v → Q v H) : rIx K (.ref p) (.int i) H Q := by
  have hl : i.toNat < xs.length := by omega
  have hg : xs[i.toNat]? = some xs[i.toNat] := List.getElem?_eq_getElem hl
  exact r_ixT h (ix_some (n := i.toNat) (by omega) hg) (q _ (hP _ (List.getElem_mem hl)))
/-- an item of a list of ints, at a place that lies in it -/
theorem r_ixI {K : PySem.W.Frag} {H : Hp} {Q : VK} {i : Int} {p : Addr} {xs : List V} (h : SqL K H p xs) (h0 : 0 ≤ i) (h1 : i < (xs.length : Int)) (hP : ∀ v ∈ xs, ∃ z : Int, v = .int z) (q : ∀ z, Q (.int z) H) : rIx K (.ref p) (.int i) H Q :=
  r_ixA _ h h0 h1 hP fun v ⟨z, e⟩ => e ▸ q z
theorem r_ixIT {K : PySem.W.Frag} {H : Hp} {Q : VK} {i : Int} {p : Addr} {xs : List V} (h : SqT K H p xs) (h0 : 0 ≤ i) (h1 : i < (xs.length : Int)) (hP : ∀ v ∈ xs, ∃ z : Int, v = .int z) (q : ∀ z, Q (.int z) H) : rIx K (.ref p) (.int i) H Q :=
  r_ixAT _ h h0 h1 hP fun v ⟨z, e⟩ => e ▸ q z
end Vs
/-- two addresses apart -/
local macro_rules | `(tactic| k_clsL) => `(tactic| first
  | assumption
  | exact Ne.symm (by assumption)
  | (refine' ne_of_none ?h1 ?h2; (case h2 => assumption); (case h1 => kcj_m))
  | (refine' Ne.symm (ne_of_none ?h1 ?h2); (case h2 => assumption); (case h1 => kcj_m))
  | (refine' ne_of ?h1 ?h2 ?d; (case h1 => assumption); (case h2 => kcj_m); (case d => intro z; cases z)))
/-- what stands at an address -/
local macro_rules | `(tactic| kcj_m) => `(tactic| first
  | assumption
  | exact upd_same
  | (refine' Eq.trans (upd_ne ?ne) ?hq; (case ne => k_clsL); (case hq => kcj_m))
  | (refine' Kp.at ?k ?hq ?ne; (case k => assumption); (case hq => kcj_m); (case ne => k_clsL))
  | (refine' Same.at ?k ?hq; (case k => assumption); (case hq => kcj_m)))
local macro_rules | `(tactic| k_places) => `(tactic| first
  | assumption
  | (refine' Same.seq ?k ?h; (case h => assumption); (case k => k_subL))
  | (refine' Kp.seqn ?k ?hl ?h; (case h => assumption); (case hl => assumption); (case k => k_subL))
  | (refine' SqL.of ?hq; (case hq => kcj_m))
  | (refine' SqT.of ?hq; (case hq => kcj_m)))
local macro_rules | `(tactic| k_offL) => `(tactic| first
  | assumption
  | (show CMul _ _; unfold CMul; omega)
  | exact ⟨by omega, by omega⟩
  | (show (0 : Int) < _; omega)
  | (show (0 : Int) ≤ _; omega)
  | exact ⟨by omega, by omega, by decide⟩
  | exact wide_div (by omega) (b := 64) (by omega) (by decide) (by decide)
  | exact ⟨by decide, by decide, by decide⟩
  | omega)
/-- a value's type -/
local macro_rules | `(tactic| k_intsEnd) => `(tactic| first
  | assumption
  | exact .base (.int _)
  | exact .base (.bl _)
  | exact .base .non
  | exact .base (.str _)
  | (refine' .base (.tup ?hq); (case hq => kcj_m))
  | (refine' .base (.lst ?hq); (case hq => kcj_m)))
/-- one step -/
local macro_rules | `(tactic| k_memK) => `(tactic| first
  | ((with_reducible refine' r_var ?h ?_); (case h => exact rfl))
  | (with_reducible refine r_c ?_)
  | (with_reducible refine r_op ?_)
  | (with_reducible refine r_un ?_)
  | (with_reducible refine r_seq ?_)
  | (with_reducible refine r_asg ?_)
  | (with_reducible refine r_gName ?_)
  | (with_reducible refine r_I0 ?_)
  | ((with_reducible refine' r_I ?c ?_); (case c => k_offL))
  | (with_reducible refine r_U ?_)
  | (with_reducible refine r_nil ?_)
  | (with_reducible refine r_cons ?_)
  | (with_reducible refine r_call0 ?_)
  | (with_reducible refine r_call ?_)
  | (with_reducible refine r_cb ?_)
  | (with_reducible refine r_test ?_)
  | (with_reducible refine r_tB ?_)
  | (with_reducible refine r_isbl ?_)
  | (with_reducible refine r_isint ?_)
  | (with_reducible refine r_and ?_)
  | (with_reducible refine r_or ?_)
  | (with_reducible refine r_not ?_)
  | (with_reducible refine r_andV ?_)
  | (with_reducible refine r_orV ?_)
  | (with_reducible refine r_notV ?_)
  | ((with_reducible refine' r_ifP ?T ?h1 ?h2); (case T => kct_strs); k_allIn)
  | ((with_reducible refine' r_tifP ?T ?h1 ?h2); (case T => kct_strs); k_allIn)
  | (with_reducible refine r_chain ?_)
  | (with_reducible refine r_eqI ?_)
  | (with_reducible refine r_neI ?_)
  | (with_reducible refine r_eqB ?_)
  | (with_reducible refine r_neB ?_)
  | (with_reducible refine r_eqS ?_)
  | (with_reducible refine r_neS ?_)
  | (with_reducible refine ite_t ?_)
  | (with_reducible refine ite_f ?_)
  | (with_reducible refine ite_nt ?_)
  | (with_reducible refine ite_nf ?_)
  | ((with_reducible refine ite_y ?hp ?_); (case hp => first | assumption | (with_reducible exact rfl) | omega))
  | ((with_reducible refine ite_n ?hp ?_); (case hp => first | assumption | (with_reducible exact rfl) | omega))
  | ((with_reducible refine ite_ny ?hp ?_); (case hp => first | assumption | (with_reducible exact rfl) | omega))
  | ((with_reducible refine ite_nn ?hp ?_); (case hp => first | assumption | (with_reducible exact rfl) | omega))
  | (with_reducible refine r_next ?_)
  | (with_reducible refine r_brk ?_)
  | (with_reducible refine r_cont ?_)
  | (with_reducible refine r_ret ?_)
  | (with_reducible refine r_retN ?_)
  | (with_reducible refine r_drop ?_)
  | (with_reducible refine r_tup ?_)
  | (with_reducible refine r_lst ?_)
  | ((with_reducible refine' r_size ?h ?_); (case h => (first | decide | (simp only [List.length]; omega))))
  | ((with_reducible refine' r_ixL ?h ?ha ?_); (case h => k_places); (case ha => exact rfl))
  | ((with_reducible refine' r_ixT ?h ?ha ?_); (case h => k_places); (case ha => exact rfl))
  | ((with_reducible refine' r_lenL ?h ?_); (case h => k_places))
  | ((with_reducible refine' r_lenT ?h ?_); (case h => k_places))
  | (with_reducible refine r_gSub ?_)
  | ((with_reducible refine' r_setL ?h ?e ?_); (case h => kcj_m); (case e => exact rfl))
  | (with_reducible refine r_int1i ?_)
  | (with_reducible refine r_int1b ?_)
  | (with_reducible refine r_sl ?_)
  | (with_reducible refine r_noPart ?_)
  | ((with_reducible refine' r_slL ?h ?_); (case h => k_places))
  | ((with_reducible refine' r_cat ?h ?h2 ?hl ?_); (case h => kcj_m); (case h2 => kcj_m); (case hl => first | exact cells_len (by assumption) | (simp only [List.length]; rw [sizeLine_eq]; omega)))
  | ((with_reducible refine' r_eqDe ?hx ?hy ?sd ?h ?_); (case hx => kbo_bools); (case hy => kbo_bools); (case sd => exact rfl); (case h => got_up))
  | ((with_reducible refine' r_neDe ?hx ?hy ?sd ?h ?_); (case hx => kbo_bools); (case hy => kbo_bools); (case sd => exact rfl); (case h => got_up))
  | (with_reducible refine r_part ?_)
  | ((with_reducible refine' r_divmod ?c ?_); (case c => k_offL))
  | ((with_reducible refine' r_isi (c := true) ?ty ?h ?_); (case ty => k_intsEnd); (case h => decide +kernel))
  | ((with_reducible refine' r_isi (c := false) ?ty ?h ?_); (case ty => k_intsEnd); (case h => decide +kernel))
  | kas_types
  | intro p hp
  | (with_reducible refine r_isN ?_)
  | (with_reducible refine r_for ?_)
  | (with_reducible refine r_iList ?_)
  | (with_reducible refine r_iTup ?_)
  | (with_reducible refine r_iRng1 ?_)
  | (with_reducible refine r_iRng2 ?_)
  | (with_reducible refine r_iRng3 ?_)
  | (with_reducible refine r_lc ?_)
  | (with_reducible refine r_isB ?_)
  | (with_reducible refine r_notB ?_)
  | ((with_reducible refine' r_rep ?h ?h0 ?h1 ?hl ?_); (case h => kcj_m); (case h0 => omega); (case h1 => omega); (case hl => (simp only [List.length]; rw [sizeLine_eq]; omega)))
  | ((with_reducible refine' r_gTup ?h ?e ?_); (case h => k_places); (case e => exact rfl))
  | (with_reducible refine r_gCons ?_)
  | (with_reducible refine r_gNil ?_)
  | ((with_reducible refine' r_all ?h ?_); (case h => k_places))
  | (with_reducible refine r_bm ?_)
  | (with_reducible refine r_bm0 ?_)
  | ((with_reducible refine' r_tyl ?h ?_); (case h => kcj_m)))
local macro_rules | `(tactic| k_ownIn) => `(tactic| repeat (k_memK))

local macro_rules | `(tactic| kcj_in) => `(tactic| first | assumption | omega | (simp; done) | (simp; omega))
/-- a test's proposition -/
local macro_rules | `(tactic| kct_strs) => `(tactic| first
  | ((with_reducible refine' pu_and ?a ?b); (case a => kct_strs); (case b => (intro hp; kct_strs)))
  | ((with_reducible refine' pu_or ?a ?b); (case a => kct_strs); (case b => (intro hp; kct_strs)))
  | ((with_reducible refine' pu_not ?a); (case a => kct_strs))
  | (refine' pu_d ?a; (case a => (intro B hB; k_ownIn; exact hB)))
  | (refine' pu_n ?a; (case a => (intro B hB; k_ownIn; exact hB)))
  | (refine' pu_nb ?a; (case a => (intro B hB; k_ownIn; exact hB)))
  | (refine' pu_b ?a; (case a => (intro B hB; k_ownIn; exact hB)))
  | (refine pu_x ?_; omega))
/-- an if, its two ways left -/
local macro_rules | `(tactic| keq_rows) => `(tactic| first
  | ((with_reducible refine' r_ifP ?T ?_ ?_); (case T => kct_strs))
  | ((with_reducible refine' r_tifP ?T ?_ ?_); (case T => kct_strs)))

/-- all but l stands; all stands -/
local macro_rules | `(tactic| k_subL) => `(tactic| first
  | assumption
  | exact Kp.refl _ _
  | exact Same.refl _
  | (with_reducible refine Kp.upd ?_; k_subL)
  | (with_reducible refine' Kp.new ?a ?hp; (case a => k_subL); (case hp => assumption))
  | (with_reducible refine' Same.new ?a ?hp; (case a => k_subL); (case hp => assumption))
  | (refine' Kp.trans ?a ?b; (case b => assumption); (case a => k_subL))
  | (refine' Kp.same ?a ?b; (case b => assumption); (case a => k_subL))
  | (refine' Same.trans ?a ?b; (case b => assumption); (case a => k_subL))
  | (refine Same.kp ?_; k_subL))

/-- two ways, one of which can't be -/
local macro_rules | `(tactic| k_allIn) => `(tactic| first
  | (rotate_left; (focus (intro hn; exact absurd (by kcj_in) hn)); intro hp)
  | ((focus (intro hn; exact absurd hn (by kcj_in))); intro hp))

/-- data as they stand -/
local macro_rules | `(tactic| kbo_bools) => `(tactic| first
  | exact Dp.int _
  | exact Dp.str _
  | exact Dp.bl _
  | exact Dp.non
  | (refine' Dp.tup ?h ?a; (case h => k_places); (case a => keq_hits))
  | (refine' Dp.lst ?h ?a; (case h => k_places); (case a => keq_hits)))
local macro_rules | `(tactic| keq_hits) => `(tactic| first
  | exact DpAll.nil
  | (refine' DpAll.cons ?x ?y; (case x => kbo_bools); (case y => keq_hits)))
local macro_rules | `(tactic| got_up) => `(tactic| first
  | exact rfl
  | (simp only [PyData.tuple.injEq, PyData.list.injEq, List.cons.injEq, PyData.int.injEq, and_true, true_and]; omega))

/-- an if whose test lays objects -/
local macro_rules | `(tactic| kbt_split) => `(tactic| (with_reducible first | refine r_ifS ?_ | refine r_if ?_))

/-- an item of written ints at a drawn place -/
local macro_rules | `(tactic| ksw_less) => `(tactic| first
  | ((with_reducible refine' r_ixI ?h ?h0 ?h1 ?hP (fun z => ?_)); (case h => k_places); (case h0 => omega); (case h1 => (simp only [List.length]; omega)); (case hP => simp))
  | ((with_reducible refine' r_ixIT ?h ?h0 ?h1 ?hP (fun z => ?_)); (case h => k_places); (case h0 => omega); (case h1 => (simp only [List.length]; omega)); (case hP => simp)))

namespace Pr
open PySem PySem.Spec PyProof.Rows L2 Vs
/-! ### the law's draws, as plain functions -/
def mix (c k : Int) : Int :=
  (((c + 7919 * k + 1) * 48271 % 2147483647) * (((c + 7919 * k + 1) * 48271 % 2147483647) / 1009 + 69621) % 2147483647) *
    ((((c + 7919 * k + 1) * 48271 % 2147483647) * (((c + 7919 * k + 1) * 48271 % 2147483647) / 1009 + 69621) % 2147483647) / 2003 + 40692 + k) % 2147483399
structure Wl where
  a : Int
  b : Int
  c : Int
  d : Int
abbrev Wl.o (w : Wl) : HO := .lst [.int w.a, .int w.b, .int w.c, .int w.d]
def drF (c d : Int) : Nat → Int
  | 0 => 0
  | n + 1 => drF c d n * 2147483399 + mix c (d + ((n + 1 : Nat) : Int))
def dv (w : Wl) (m : Int) : Int := if w.b = 0 ∧ 0 < w.a then w.a % m else drF w.c w.d (if 1000000 < m then 3 else 1) % m
def dn (w : Wl) (m : Int) : Wl := if w.b = 0 ∧ 0 < w.a then ⟨w.a / m, w.b, w.c, w.d⟩ else ⟨w.a, w.b, w.c, w.d + ((if 1000000 < m then 3 else 1 : Nat) : Int)⟩
theorem dv_lo (w : Wl) {m : Int} (h : 0 < m) : 0 ≤ dv w m := by
  unfold dv
  split
  · exact Int.emod_nonneg _ (by omega)
  · exact Int.emod_nonneg _ (by omega)
theorem dv_hi (w : Wl) {m : Int} (h : 0 < m) : dv w m < m := by
  unfold dv
  split
  · exact Int.emod_lt_of_pos _ h
  · exact Int.emod_lt_of_pos _ h
/-- what is drawn: a number from 0 on below m -/
def cellAt (ns : List Int) (k : Nat) : Int := ns.getD k 0
end Pr

namespace Pr
open PySem PySem.Spec PyProof.Rows L2 He Vs
def top (i : Nat) : Stmt := PySem.Challenge.pw_bellsaway_k04_next_minutes.main.body.getD i (.Pass ⟨0, 0, 0, 0⟩)
abbrev s_law_well : Stmt := top 17
def d_law_well : He.DefD := ⟨("_law_well", none), "_law_well", "_law_well", defArgs s_law_well, defBody s_law_well, defScope s_law_well, [], []⟩
abbrev s_law_mixed : Stmt := top 16
def d_law_mixed : He.DefD := ⟨("_law_mixed", none), "_law_mixed", "_law_mixed", defArgs s_law_mixed, defBody s_law_mixed, defScope s_law_mixed, [], []⟩
abbrev s_law_draw : Stmt := top 18
def d_law_draw : He.DefD := ⟨("_law_draw", none), "_law_draw", "_law_draw", defArgs s_law_draw, defBody s_law_draw, defScope s_law_draw, [], []⟩
abbrev s_law_moment : Stmt := top 20
def d_law_moment : He.DefD := ⟨("_law_moment", none), "_law_moment", "_law_moment", defArgs s_law_moment, defBody s_law_moment, defScope s_law_moment, [], []⟩
abbrev s_law_cell_at : Stmt := top 15
def d_law_cell_at : He.DefD := ⟨("_law_cell_at", none), "_law_cell_at", "_law_cell_at", defArgs s_law_cell_at, defBody s_law_cell_at, defScope s_law_cell_at, [], []⟩
abbrev s_is_whole : Stmt := top 4
def d_is_whole : He.DefD := ⟨("is_whole", none), "is_whole", "is_whole", defArgs s_is_whole, defBody s_is_whole, defScope s_is_whole, [], []⟩
abbrev s_is_between : Stmt := top 5
def d_is_between : He.DefD := ⟨("is_between", none), "is_between", "is_between", defArgs s_is_between, defBody s_is_between, defScope s_is_between, [], []⟩
abbrev s_sure_minute : Stmt := top 10
def d_sure_minute : He.DefD := ⟨("sure_minute", none), "sure_minute", "sure_minute", defArgs s_sure_minute, defBody s_sure_minute, defScope s_sure_minute, [], []⟩
abbrev s_sure_zone : Stmt := top 9
def d_sure_zone : He.DefD := ⟨("sure_zone", none), "sure_zone", "sure_zone", defArgs s_sure_zone, defBody s_sure_zone, defScope s_sure_zone, [], []⟩
abbrev s_shown : Stmt := top 11
def d_shown : He.DefD := ⟨("shown", none), "shown", "shown", defArgs s_shown, defBody s_shown, defScope s_shown, [], []⟩
abbrev s_next_hour : Stmt := top 12
def d_next_hour : He.DefD := ⟨("next_hour", none), "next_hour", "next_hour", defArgs s_next_hour, defBody s_next_hour, defScope s_next_hour, [], []⟩
abbrev s_law_whole : Stmt := top 19
def d_law_whole : He.DefD := ⟨("_law_whole", none), "_law_whole", "_law_whole", defArgs s_law_whole, defBody s_law_whole, defScope s_law_whole, [], []⟩
abbrev s_law_hour_right : Stmt := top 21
def d_law_hour_right : He.DefD := ⟨("_law_hour_right", none), "_law_hour_right", "_law_hour_right", defArgs s_law_hour_right, defBody s_law_hour_right, defScope s_law_hour_right, [], []⟩
abbrev s_next_day : Stmt := top 13
def d_next_day : He.DefD := ⟨("next_day", none), "next_day", "next_day", defArgs s_next_day, defBody s_next_day, defScope s_next_day, [], []⟩
abbrev s_law_day_right : Stmt := top 22
def d_law_day_right : He.DefD := ⟨("_law_day_right", none), "_law_day_right", "_law_day_right", defArgs s_law_day_right, defBody s_law_day_right, defScope s_law_day_right, [], []⟩
abbrev s_law : Stmt := top 23
def d_law : He.DefD := ⟨("law", none), "law", "law", defArgs s_law, defBody s_law, defScope s_law, [], []⟩
def fn : List He.DefD := [d_law_well, d_law_mixed, d_law_draw, d_law_moment, d_law_cell_at, d_is_whole, d_is_between, d_sure_minute, d_sure_zone, d_shown, d_next_hour, d_law_whole, d_law_hour_right, d_next_day, d_law_day_right, d_law]
def fa : List He.Fa := [.glo "_law_mixed", .free "int", .free "range", .glo "_law_draw", .free "len", .free "bool", .free "isinstance", .glo "is_whole", .glo "is_between", .int "DAY" 1440, .glo "sure_zone", .free "divmod", .glo "shown", .glo "sure_minute", .int "HOUR" 60, .glo "_law_whole", .glo "next_hour", .glo "next_day", .glo "_law_cell_at", .glo "_law_day_right", .glo "_law_hour_right", .glo "_law_moment", .glo "_law_well", .glo "law"]
structure Env (K : PySem.W.Frag) (mg : Str → Option Value) : Prop where
  c : SaysD fa fn K
  g : ∃ h : Heap, K.In h ∧ h.Ns mainGlobals mg
theorem Env.glo {K : PySem.W.Frag} {mg : Str → Option Value} (Z : Env K mg) (i : Nat) {x : Str} (h : fa[i]? = some (.glo x)) : mg x = some (.ref (ga K x)) := let ⟨_, X, G⟩ := Z.g; glo_ok X G (Z.c.fact i h)
theorem Env.free {K : PySem.W.Frag} {mg : Str → Option Value} (Z : Env K mg) (i : Nat) {x : Str} (h : fa[i]? = some (.free x)) : mg x = none := let ⟨_, X, G⟩ := Z.g; free_ok X G (Z.c.fact i h)
theorem Env.int {K : PySem.W.Frag} {mg : Str → Option Value} (Z : Env K mg) (j : Nat) {x : Str} {i : Int} (h : fa[j]? = some (.int x i)) : ∃ t, mg x = some (.int i t) := let ⟨_, X, G⟩ := Z.g; int_ok X G (Z.c.fact j h)
theorem Env.str {K : PySem.W.Frag} {mg : Str → Option Value} (Z : Env K mg) (j : Nat) {x z : Str} (h : fa[j]? = some (.str x z)) : ∃ t, mg x = some (.str z t) := let ⟨_, X, G⟩ := Z.g; str_ok X G (Z.c.fact j h)

/-! ### _law_well -/
def sp_law_well (K : PySem.W.Frag) : Sp := fun vs H Q _ => ∃ (c : Int), vs = [.int c] ∧ ∀ p, H p = none → Q (.ref p) (upd H p (Wl.o ⟨c / 2, c % 2, c % 2147483647, 0⟩))
theorem sp_well_use {K : PySem.W.Frag} {H : Hp} {Q : VK} {E : XK} {c : Int} (q : ∀ p, H p = none → ∀ w : Wl, Q (.ref p) (upd H p w.o)) : sp_law_well K [.int c] H Q E := ⟨_, rfl, fun p hp => q p hp _⟩
local macro_rules | `(tactic| kas_types) => `(tactic| (with_reducible refine sp_well_use (fun p hp w => ?_)))
def t_law_well (K : PySem.W.Frag) : TS :=
  (tRet (tLst (tCons (tOp (rI CDiv fun i j => .int (i / j)) (tVar 0) (tC (.int 2))) (tCons (tOp (rI (fun _ j => 0 < j) fun i j => .int (i % j)) (tVar 0) (tC (.int 2))) (tCons (tOp (rI (fun _ j => 0 < j) fun i j => .int (i % j)) (tVar 0) (tC (.int 2147483647))) (tCons (tC (.int 0)) tNil))))))
theorem run_law_well {K : PySem.W.Frag} {vs : List V} {H : Hp} {Q : VK} {E : XK} (h : sp_law_well K vs H Q E) : t_law_well K (Ends.mk (fun _ H' => Q .non H') Q (fun _ _ => False) (fun _ _ => False)) (start ["_law_cell"] vs) H := by
  obtain ⟨c, rfl, q⟩ := h
  unfold t_law_well
  k_ownIn
  exact q _ (by assumption)
theorem len_law_well {K : PySem.W.Frag} {vs : List V} {H : Hp} {Q : VK} {E : XK} (h : sp_law_well K vs H Q E) : vs.length = 1 := by
  first | (obtain ⟨rfl, _⟩ := h; rfl) | (obtain ⟨_, rfl, _⟩ := h; rfl) | (obtain ⟨_, _, rfl, _⟩ := h; rfl) | (obtain ⟨_, _, _, rfl, _⟩ := h; rfl) | (obtain ⟨_, _, _, _, rfl, _⟩ := h; rfl) | (obtain ⟨_, _, _, _, _, rfl, _⟩ := h; rfl) | (obtain ⟨_, _, _, _, _, _, rfl, _⟩ := h; rfl) | (obtain ⟨_, _, _, _, _, _, _, rfl, _⟩ := h; rfl) | (obtain ⟨_, _, _, _, _, _, _, _, rfl, _⟩ := h; rfl) | (obtain ⟨_, _, _, _, _, _, _, _, _, rfl, _⟩ := h; rfl) | (obtain ⟨_, _, _, _, _, _, _, _, _, _, rfl, _⟩ := h; rfl) | (obtain ⟨_, _, _, _, _, _, _, _, _, _, _, rfl, _⟩ := h; rfl) | (obtain ⟨_, _, _, _, _, _, _, _, _, _, _, _, rfl, _⟩ := h; rfl) | (obtain ⟨_, _, _, _, _, _, _, _, _, _, _, _, _, rfl, _⟩ := h; rfl)
/-! ### _law_mixed -/
def sp_law_mixed (K : PySem.W.Frag) : Sp := fun vs H Q _ => ∃ (c k : Int), vs = [.int c, .int k] ∧ Q (.int (mix c k)) H
theorem sp_mixed_use {K : PySem.W.Frag} {H : Hp} {Q : VK} {E : XK} {c k : Int} (q : Q (.int (mix c k)) H) : sp_law_mixed K [.int c, .int k] H Q E := ⟨_, _, rfl, q⟩
local macro_rules | `(tactic| kas_types) => `(tactic| (with_reducible refine sp_mixed_use ?_))
def t_law_mixed (K : PySem.W.Frag) : TS :=
  (tSeq (tAsg (tOp (rI (fun _ j => 0 < j) fun i j => .int (i % j)) (tOp (rI CMul fun i j => .int (i * j)) (tOp (rI0 fun i j => .int (i + j)) (tOp (rI0 fun i j => .int (i + j)) (tVar 0) (tOp (rI CMul fun i j => .int (i * j)) (tC (.int 7919)) (tVar 1))) (tC (.int 1))) (tC (.int 48271))) (tC (.int 2147483647))) (gName 2))
    (tSeq (tAsg (tOp (rI (fun _ j => 0 < j) fun i j => .int (i % j)) (tOp (rI CMul fun i j => .int (i * j)) (tVar 2) (tOp (rI0 fun i j => .int (i + j)) (tOp (rI CDiv fun i j => .int (i / j)) (tVar 2) (tC (.int 1009))) (tC (.int 69621)))) (tC (.int 2147483647))) (gName 2))
    (tRet (tOp (rI (fun _ j => 0 < j) fun i j => .int (i % j)) (tOp (rI CMul fun i j => .int (i * j)) (tVar 2) (tOp (rI0 fun i j => .int (i + j)) (tOp (rI0 fun i j => .int (i + j)) (tOp (rI CDiv fun i j => .int (i / j)) (tVar 2) (tC (.int 2003))) (tC (.int 40692))) (tVar 1))) (tC (.int 2147483399))))))
theorem run_law_mixed {K : PySem.W.Frag} {vs : List V} {H : Hp} {Q : VK} {E : XK} (h : sp_law_mixed K vs H Q E) : t_law_mixed K (Ends.mk (fun _ H' => Q .non H') Q (fun _ _ => False) (fun _ _ => False)) (start ["_law_cell", "_law_k", "_law_number"] vs) H := by
  obtain ⟨c, k, rfl, q⟩ := h
  unfold t_law_mixed
  k_ownIn
  exact q
theorem len_law_mixed {K : PySem.W.Frag} {vs : List V} {H : Hp} {Q : VK} {E : XK} (h : sp_law_mixed K vs H Q E) : vs.length = 2 := by
  first | (obtain ⟨rfl, _⟩ := h; rfl) | (obtain ⟨_, rfl, _⟩ := h; rfl) | (obtain ⟨_, _, rfl, _⟩ := h; rfl) | (obtain ⟨_, _, _, rfl, _⟩ := h; rfl) | (obtain ⟨_, _, _, _, rfl, _⟩ := h; rfl) | (obtain ⟨_, _, _, _, _, rfl, _⟩ := h; rfl) | (obtain ⟨_, _, _, _, _, _, rfl, _⟩ := h; rfl) | (obtain ⟨_, _, _, _, _, _, _, rfl, _⟩ := h; rfl) | (obtain ⟨_, _, _, _, _, _, _, _, rfl, _⟩ := h; rfl) | (obtain ⟨_, _, _, _, _, _, _, _, _, rfl, _⟩ := h; rfl) | (obtain ⟨_, _, _, _, _, _, _, _, _, _, rfl, _⟩ := h; rfl) | (obtain ⟨_, _, _, _, _, _, _, _, _, _, _, rfl, _⟩ := h; rfl) | (obtain ⟨_, _, _, _, _, _, _, _, _, _, _, _, rfl, _⟩ := h; rfl) | (obtain ⟨_, _, _, _, _, _, _, _, _, _, _, _, _, rfl, _⟩ := h; rfl)
/-! ### _law_draw -/
def sp_law_draw (K : PySem.W.Frag) : Sp := fun vs H Q _ => ∃ (l : Addr) (w : Wl) (m : Int), vs = [.ref l, .int m] ∧ H l = some w.o ∧ 0 < m ∧ m ≤ 1000000000000000000 ∧ Q (.int (dv w m)) (upd H l (dn w m).o)
theorem sp_draw_any {K : PySem.W.Frag} {H : Hp} {Q : VK} {E : XK} {l : Addr} {w : Wl} {m : Int} (h : H l = some w.o) (h0 : 0 < m) (h1 : m ≤ 1000000000000000000) (q : ∀ v w', 0 ≤ v → v < m → Q (.int v) (upd H l (Wl.o w'))) :
    sp_law_draw K [.ref l, .int m] H Q E := ⟨l, w, m, rfl, h, h0, h1, q _ _ (dv_lo w h0) (dv_hi w h0)⟩
/-- a draw, whatever comes -/
local macro_rules | `(tactic| kat_tups) => `(tactic| ((with_reducible refine' sp_draw_any ?h ?h0 ?h1 (fun v w' l0 l1 => ?_)); (case h => kcj_m); (case h0 => omega); (case h1 => omega)))
local macro_rules | `(tactic| kas_types) => `(tactic| kat_tups)
def t_law_draw (K : PySem.W.Frag) : TS :=
  (tSeq (tIfS (tAnd (tTest (tOp rEq (tOp (rIx K) (tVar 0) (tC (.int 1))) (tC (.int 0)))) (tTest (tOp (rI0 fun i j => .bl (decide (j < i))) (tOp (rIx K) (tVar 0) (tC (.int 0))) (tC (.int 0))))) (tSeq (tAsg (tOp (rI (fun _ j => 0 < j) fun i j => .int (i % j)) (tOp (rIx K) (tVar 0) (tC (.int 0))) (tVar 1)) (gName 2))
    (tSeq (tAsg (tOp (rI CDivW fun i j => .int (i / j)) (tOp (rIx K) (tVar 0) (tC (.int 0))) (tVar 1)) (gSub (tVar 0) (tC (.int 0)) rSetL))
    (tRet (tVar 2)))) tNext)
    (tSeq (tAsg (tC (.int 0)) (gName 2))
    (tSeq (tFor (iRng1 (tCons (tOp (rI0 fun i j => .int (i + j)) (tC (.int 1)) (tOp (rI CMul fun i j => .int (i * j)) (tC (.int 2)) (tCB rInt1 (tCons (tOp (rI0 fun i j => .bl (decide (j < i))) (tVar 1) (tC (.int 1000000))) tNil)))) tNil)) (gName 3)
    (tSeq (tAsg (tOp (rI0 fun i j => .int (i + j)) (tOp (rIx K) (tVar 0) (tC (.int 3))) (tC (.int 1))) (gSub (tVar 0) (tC (.int 3)) rSetL))
    (tAsg (tOp (rI0 fun i j => .int (i + j)) (tOp (rI CMul fun i j => .int (i * j)) (tVar 2) (tC (.int 2147483399))) (tCall (sp_law_mixed K) [] E0 (tCons (tOp (rIx K) (tVar 0) (tC (.int 2))) (tCons (tOp (rIx K) (tVar 0) (tC (.int 3))) tNil)))) (gName 2))))
    (tRet (tOp (rI (fun _ j => 0 < j) fun i j => .int (i % j)) (tVar 2) (tVar 1))))))
theorem run_law_draw {K : PySem.W.Frag} {vs : List V} {H : Hp} {Q : VK} {E : XK} (h : sp_law_draw K vs H Q E) : t_law_draw K (Ends.mk (fun _ H' => Q .non H') Q (fun _ _ => False) (fun _ _ => False)) (start ["_law_well_here", "_law_most", "_law_found", "_law_turn"] vs) H := by
  obtain ⟨l, w, m, rfl, hl, h0, h1, q⟩ := h
  unfold t_law_draw
  k_ownIn
  keq_rows
  · intro hc
    k_ownIn
    have e1 : dv w m = w.a % m := by unfold dv; rw [if_pos hc]
    have e2 : (dn w m).o = .lst [.int (w.a / m), .int w.b, .int w.c, .int w.d] := by unfold dn; rw [if_pos hc]
    rw [e1, e2] at q
    exact q
  · intro hc
    k_ownIn
    have en : (1 + 2 * if decide (1000000 < m) = true then (1 : Int) else 0).toNat = if 1000000 < m then 3 else 1 := by
      by_cases hm : 1000000 < m
      · rw [if_pos hm, if_pos (decide_eq_true hm)]; rfl
      · rw [if_neg hm, if_neg (fun z => hm (of_decide_eq_true z))]; rfl
    refine r_loopR1 (fun i σ' H' => ∃ tv : Option V, σ' = [some (.ref l), some (.int m), some (.int (drF w.c w.d i)), tv] ∧ H' = upd H l (.lst [.int w.a, .int w.b, .int w.c, .int (w.d + (i : Int))]))
      (by split <;> omega) ⟨none, rfl, ?_⟩ ?_ ?_
    · have e : w.d + ((0 : Nat) : Int) = w.d := by omega
      rw [e]
      exact (upd_id hl).symm
    · rintro i σ' H' N hi ⟨tv, rfl, rfl⟩ hN
      k_ownIn
      refine hN _ _ ?_
      have e : w.d + (i : Int) + 1 = w.d + ((i + 1 : Nat) : Int) := by omega
      rw [upd2, e]
      exact ⟨_, rfl, rfl⟩
    · rintro σ' H' ⟨tv, rfl, rfl⟩
      k_ownIn
      have e1 : dv w m = drF w.c w.d (if 1000000 < m then 3 else 1) % m := by unfold dv; rw [if_neg hc]
      have e2 : (dn w m).o = .lst [.int w.a, .int w.b, .int w.c, .int (w.d + ((if 1000000 < m then 3 else 1 : Nat) : Int))] := by unfold dn; rw [if_neg hc]
      rw [e1, e2] at q
      rw [en]
      exact q
theorem len_law_draw {K : PySem.W.Frag} {vs : List V} {H : Hp} {Q : VK} {E : XK} (h : sp_law_draw K vs H Q E) : vs.length = 2 := by
  first | (obtain ⟨rfl, _⟩ := h; rfl) | (obtain ⟨_, rfl, _⟩ := h; rfl) | (obtain ⟨_, _, rfl, _⟩ := h; rfl) | (obtain ⟨_, _, _, rfl, _⟩ := h; rfl) | (obtain ⟨_, _, _, _, rfl, _⟩ := h; rfl) | (obtain ⟨_, _, _, _, _, rfl, _⟩ := h; rfl) | (obtain ⟨_, _, _, _, _, _, rfl, _⟩ := h; rfl) | (obtain ⟨_, _, _, _, _, _, _, rfl, _⟩ := h; rfl) | (obtain ⟨_, _, _, _, _, _, _, _, rfl, _⟩ := h; rfl) | (obtain ⟨_, _, _, _, _, _, _, _, _, rfl, _⟩ := h; rfl) | (obtain ⟨_, _, _, _, _, _, _, _, _, _, rfl, _⟩ := h; rfl) | (obtain ⟨_, _, _, _, _, _, _, _, _, _, _, rfl, _⟩ := h; rfl) | (obtain ⟨_, _, _, _, _, _, _, _, _, _, _, _, rfl, _⟩ := h; rfl) | (obtain ⟨_, _, _, _, _, _, _, _, _, _, _, _, _, rfl, _⟩ := h; rfl)
/-! ### _law_moment -/
def sp_law_moment (K : PySem.W.Frag) : Sp := fun vs H Q _ => ∃ (l : Addr) (w : Wl) (z n : Int), vs = [.ref l, .int z, .int n] ∧ H l = some w.o ∧ ∀ (m : Int) (w' : Wl) (H' : Hp), H' l = some w'.o → Kp l H H' → Q (.int m) H'
theorem sp_moment_use {K : PySem.W.Frag} {H : Hp} {Q : VK} {E : XK} {l : Addr} {w : Wl} {z n : Int} (h : H l = some w.o) (q : ∀ (m : Int) (w' : Wl) (H' : Hp), H' l = some w'.o → Kp l H H' → Q (.int m) H') : sp_law_moment K [.ref l, .int z, .int n] H Q E := ⟨_, _, _, _, rfl, h, q⟩
local macro_rules | `(tactic| kas_types) => `(tactic| ((with_reducible refine' sp_moment_use ?h (fun m w' H' hl k => ?_)); (case h => kcj_m)))
def t_law_moment (K : PySem.W.Frag) : TS :=
  (tSeq (tAsg (tCall (sp_law_draw K) [] E0 (tCons (tVar 0) (tCons (tC (.int 3)) tNil))) (gName 3))
    (tSeq (tIfS (tTest (tOp rEq (tVar 3) (tC (.int 0)))) (tRet (tOp (rI0 fun i j => .int (i + j)) (tOp (rI0 fun i j => .int (i - j)) (tCall (sp_law_draw K) [] E0 (tCons (tVar 0) (tCons (tOp (rI0 fun i j => .int (i - j)) (tOp (rI CMul fun i j => .int (i * j)) (tC (.int 2)) (tC (.int 10000000000000))) (tC (.int 20001))) tNil))) (tC (.int 10000000000000))) (tC (.int 10001)))) tNext)
    (tSeq (tAsg (tOp (rIx K) (tLst (tCons (tOp (rI0 fun i j => .int (i - j)) (tCall (sp_law_draw K) [] E0 (tCons (tVar 0) (tCons (tC (.int 7)) tNil))) (tC (.int 3))) (tCons (tOp (rI0 fun i j => .int (i - j)) (tCall (sp_law_draw K) [] E0 (tCons (tVar 0) (tCons (tC (.int 1000000000)) tNil))) (tOp (rI CMul fun i j => .int (i * j)) (tC (.int 5)) (tC (.int 100000000)))) tNil))) (tCall (sp_law_draw K) [] E0 (tCons (tVar 0) (tCons (tC (.int 2)) tNil)))) (gName 4))
    (tRet (tOp (rI0 fun i j => .int (i - j)) (tOp (rI0 fun i j => .int (i + j)) (tOp (rI0 fun i j => .int (i - j)) (tOp (rI0 fun i j => .int (i + j)) (tOp (rI CMul fun i j => .int (i * j)) (tVar 4) (tC (.int 1440))) (tVar 2)) (tVar 1)) (tCall (sp_law_draw K) [] E0 (tCons (tVar 0) (tCons (tC (.int 5)) tNil)))) (tC (.int 2)))))))
theorem run_law_moment {K : PySem.W.Frag} {vs : List V} {H : Hp} {Q : VK} {E : XK} (h : sp_law_moment K vs H Q E) : t_law_moment K (Ends.mk (fun _ H' => Q .non H') Q (fun _ _ => False) (fun _ _ => False)) (start ["_law_well_here", "_law_zone", "_law_minute", "_law_way", "_law_day"] vs) H := by
  obtain ⟨l, w, z, n, rfl, hl, q⟩ := h
  unfold t_law_moment
  k_ownIn
  keq_rows
  · intro hc
    k_ownIn
    exact q _ _ _ (by kcj_m) (by k_subL)
  · intro hc
    k_ownIn
    ksw_less
    k_ownIn
    exact q _ _ _ (by kcj_m) (by k_subL)
theorem len_law_moment {K : PySem.W.Frag} {vs : List V} {H : Hp} {Q : VK} {E : XK} (h : sp_law_moment K vs H Q E) : vs.length = 3 := by
  first | (obtain ⟨rfl, _⟩ := h; rfl) | (obtain ⟨_, rfl, _⟩ := h; rfl) | (obtain ⟨_, _, rfl, _⟩ := h; rfl) | (obtain ⟨_, _, _, rfl, _⟩ := h; rfl) | (obtain ⟨_, _, _, _, rfl, _⟩ := h; rfl) | (obtain ⟨_, _, _, _, _, rfl, _⟩ := h; rfl) | (obtain ⟨_, _, _, _, _, _, rfl, _⟩ := h; rfl) | (obtain ⟨_, _, _, _, _, _, _, rfl, _⟩ := h; rfl) | (obtain ⟨_, _, _, _, _, _, _, _, rfl, _⟩ := h; rfl) | (obtain ⟨_, _, _, _, _, _, _, _, _, rfl, _⟩ := h; rfl) | (obtain ⟨_, _, _, _, _, _, _, _, _, _, rfl, _⟩ := h; rfl) | (obtain ⟨_, _, _, _, _, _, _, _, _, _, _, rfl, _⟩ := h; rfl) | (obtain ⟨_, _, _, _, _, _, _, _, _, _, _, _, rfl, _⟩ := h; rfl) | (obtain ⟨_, _, _, _, _, _, _, _, _, _, _, _, _, rfl, _⟩ := h; rfl)
/-! ### _law_cell_at -/
def sp_law_cell_at (K : PySem.W.Frag) : Sp := fun vs H Q _ => ∃ (l : Addr) (ns : List Int) (j : Nat), vs = [.ref l, .int (j : Nat)] ∧ SqL K H l (ns.map V.int) ∧ Q (.int (cellAt ns j)) H
theorem sp_cell_use {K : PySem.W.Frag} {H : Hp} {Q : VK} {E : XK} {l : Addr} {ns : List Int} {i : Int} (hs : SqL K H l (ns.map V.int)) (h0 : 0 ≤ i) (q : Q (.int (cellAt ns i.toNat)) H) : sp_law_cell_at K [.ref l, .int i] H Q E :=
  ⟨l, ns, i.toNat, by rw [Int.toNat_of_nonneg h0], hs, q⟩
local macro_rules | `(tactic| kas_types) => `(tactic| ((with_reducible refine' sp_cell_use ?h ?h0 ?_); (case h => k_places); (case h0 => omega)))
def t_law_cell_at (K : PySem.W.Frag) : TS :=
  (tSeq (tIfS (tTest (tOp (rI0 fun i j => .bl (decide (i < j))) (tVar 1) (tCB (rLen K) (tCons (tVar 0) tNil)))) (tRet (tOp (rIx K) (tVar 0) (tVar 1))) tNext)
    (tRet (tC (.int 0))))
theorem run_law_cell_at {K : PySem.W.Frag} {vs : List V} {H : Hp} {Q : VK} {E : XK} (h : sp_law_cell_at K vs H Q E) : t_law_cell_at K (Ends.mk (fun _ H' => Q .non H') Q (fun _ _ => False) (fun _ _ => False)) (start ["_law_script", "_law_k"] vs) H := by
  obtain ⟨l, ns, j, rfl, hs, q⟩ := h
  unfold t_law_cell_at
  k_ownIn
  keq_rows
  · intro hj
    rw [List.length_map] at hj
    have hg : (ns.map V.int)[j]? = some (V.int (cellAt ns j)) := by
      have hj' : j < ns.length := by omega
      unfold cellAt
      rw [List.getElem?_map, List.getD_eq_getElem?_getD, List.getElem?_eq_getElem hj']
      rfl
    k_ownIn
    exact r_ixL hs (atI_nat hg) q
  · intro hj
    rw [List.length_map] at hj
    have e : cellAt ns j = 0 := by
      unfold cellAt
      rw [List.getD_eq_getElem?_getD, List.getElem?_eq_none (by omega)]
      rfl
    rw [e] at q
    k_ownIn
    exact q
theorem len_law_cell_at {K : PySem.W.Frag} {vs : List V} {H : Hp} {Q : VK} {E : XK} (h : sp_law_cell_at K vs H Q E) : vs.length = 2 := by
  first | (obtain ⟨rfl, _⟩ := h; rfl) | (obtain ⟨_, rfl, _⟩ := h; rfl) | (obtain ⟨_, _, rfl, _⟩ := h; rfl) | (obtain ⟨_, _, _, rfl, _⟩ := h; rfl) | (obtain ⟨_, _, _, _, rfl, _⟩ := h; rfl) | (obtain ⟨_, _, _, _, _, rfl, _⟩ := h; rfl) | (obtain ⟨_, _, _, _, _, _, rfl, _⟩ := h; rfl) | (obtain ⟨_, _, _, _, _, _, _, rfl, _⟩ := h; rfl) | (obtain ⟨_, _, _, _, _, _, _, _, rfl, _⟩ := h; rfl) | (obtain ⟨_, _, _, _, _, _, _, _, _, rfl, _⟩ := h; rfl) | (obtain ⟨_, _, _, _, _, _, _, _, _, _, rfl, _⟩ := h; rfl) | (obtain ⟨_, _, _, _, _, _, _, _, _, _, _, rfl, _⟩ := h; rfl) | (obtain ⟨_, _, _, _, _, _, _, _, _, _, _, _, rfl, _⟩ := h; rfl) | (obtain ⟨_, _, _, _, _, _, _, _, _, _, _, _, _, rfl, _⟩ := h; rfl)
/-! ### is_whole -/
def sp_is_whole (K : PySem.W.Frag) : Sp := fun vs H Q _ => ∃ (x : V) (t : String) (a b : Bool), vs = [x] ∧ TyX K H x (.type t) ∧ kitB t "int" = some a ∧ kitB t "bool" = some b ∧ Q (.bl (a && !b)) H
theorem sp_whole_int {K : PySem.W.Frag} {H : Hp} {Q : VK} {E : XK} {i : Int} (q : Q (.bl true) H) : sp_is_whole K [.int i] H Q E := ⟨_, "int", true, false, rfl, .base (.int i), by decide +kernel, by decide +kernel, q⟩
local macro_rules | `(tactic| kas_types) => `(tactic| (with_reducible refine sp_whole_int ?_))
def t_is_whole (K : PySem.W.Frag) : TS :=
  (tRet (tAndV (tCB (rIsi K) (tCons (tVar 0) (tCons (tC (.ty "int")) tNil))) (tNotV (tCB (rIsi K) (tCons (tVar 0) (tCons (tC (.ty "bool")) tNil))))))
theorem run_is_whole {K : PySem.W.Frag} {vs : List V} {H : Hp} {Q : VK} {E : XK} (h : sp_is_whole K vs H Q E) : t_is_whole K (Ends.mk (fun _ H' => Q .non H') Q (fun _ _ => False) (fun _ _ => False)) (start ["thing"] vs) H := by
  obtain ⟨x, t, a, b, rfl, ty, ha, hb, q⟩ := h
  unfold t_is_whole
  k_ownIn
  refine r_isi ty ha ?_
  cases a
  · k_ownIn
    exact q
  · k_ownIn
    refine r_isi ty hb ?_
    k_ownIn
    exact q
theorem len_is_whole {K : PySem.W.Frag} {vs : List V} {H : Hp} {Q : VK} {E : XK} (h : sp_is_whole K vs H Q E) : vs.length = 1 := by
  first | (obtain ⟨rfl, _⟩ := h; rfl) | (obtain ⟨_, rfl, _⟩ := h; rfl) | (obtain ⟨_, _, rfl, _⟩ := h; rfl) | (obtain ⟨_, _, _, rfl, _⟩ := h; rfl) | (obtain ⟨_, _, _, _, rfl, _⟩ := h; rfl) | (obtain ⟨_, _, _, _, _, rfl, _⟩ := h; rfl) | (obtain ⟨_, _, _, _, _, _, rfl, _⟩ := h; rfl) | (obtain ⟨_, _, _, _, _, _, _, rfl, _⟩ := h; rfl) | (obtain ⟨_, _, _, _, _, _, _, _, rfl, _⟩ := h; rfl) | (obtain ⟨_, _, _, _, _, _, _, _, _, rfl, _⟩ := h; rfl) | (obtain ⟨_, _, _, _, _, _, _, _, _, _, rfl, _⟩ := h; rfl) | (obtain ⟨_, _, _, _, _, _, _, _, _, _, _, rfl, _⟩ := h; rfl) | (obtain ⟨_, _, _, _, _, _, _, _, _, _, _, _, rfl, _⟩ := h; rfl) | (obtain ⟨_, _, _, _, _, _, _, _, _, _, _, _, _, rfl, _⟩ := h; rfl)
/-! ### is_between -/
def sp_is_between (K : PySem.W.Frag) : Sp := fun vs H Q _ => ∃ (x : V) (lo hi : Int) (t : String) (a b : Bool), vs = [x, .int lo, .int hi] ∧ TyX K H x (.type t) ∧ kitB t "int" = some a ∧ kitB t "bool" = some b ∧
  (((a && !b) = false ∧ Q (.bl false) H) ∨ ((a && !b) = true ∧ ∃ i, x = .int i ∧ Q (.bl (decide (lo ≤ i ∧ i ≤ hi))) H))
theorem sp_between_int {K : PySem.W.Frag} {H : Hp} {Q : VK} {E : XK} {i lo hi : Int} (q : Q (.bl (decide (lo ≤ i ∧ i ≤ hi))) H) : sp_is_between K [.int i, .int lo, .int hi] H Q E :=
  ⟨_, _, _, "int", true, false, rfl, .base (.int i), by decide +kernel, by decide +kernel, .inr ⟨rfl, _, rfl, q⟩⟩
local macro_rules | `(tactic| kas_types) => `(tactic| (with_reducible refine sp_between_int ?_))
def t_is_between (K : PySem.W.Frag) : TS :=
  (tRet (tAndV (tCall (sp_is_whole K) [] E0 (tCons (tVar 0) tNil)) (tChain (rI0 fun i j => .bl (decide (i ≤ j))) (rI0 fun i j => .bl (decide (i ≤ j))) (tVar 1) (tVar 0) (tVar 2))))
theorem run_is_between {K : PySem.W.Frag} {vs : List V} {H : Hp} {Q : VK} {E : XK} (h : sp_is_between K vs H Q E) : t_is_between K (Ends.mk (fun _ H' => Q .non H') Q (fun _ _ => False) (fun _ _ => False)) (start ["thing", "low", "high"] vs) H := by
  obtain ⟨x, lo, hi, t, a, b, rfl, ty, ha, hb, q⟩ := h
  unfold t_is_between
  k_ownIn
  refine ⟨x, t, a, b, rfl, ty, ha, hb, ?_⟩
  rcases q with ⟨e, q⟩ | ⟨e, i, rfl, q⟩
  · rw [e]
    k_ownIn
    exact q
  · rw [e]
    k_ownIn
    refine ite_d (fun h1 => ?_) (fun h1 => ?_)
    · k_ownIn
      have e2 : decide (lo ≤ i ∧ i ≤ hi) = decide (i ≤ hi) := by simp [h1]
      rw [e2] at q
      exact q
    · have e2 : decide (lo ≤ i ∧ i ≤ hi) = false := by simp [h1]
      rw [e2] at q
      exact q
theorem len_is_between {K : PySem.W.Frag} {vs : List V} {H : Hp} {Q : VK} {E : XK} (h : sp_is_between K vs H Q E) : vs.length = 3 := by
  first | (obtain ⟨rfl, _⟩ := h; rfl) | (obtain ⟨_, rfl, _⟩ := h; rfl) | (obtain ⟨_, _, rfl, _⟩ := h; rfl) | (obtain ⟨_, _, _, rfl, _⟩ := h; rfl) | (obtain ⟨_, _, _, _, rfl, _⟩ := h; rfl) | (obtain ⟨_, _, _, _, _, rfl, _⟩ := h; rfl) | (obtain ⟨_, _, _, _, _, _, rfl, _⟩ := h; rfl) | (obtain ⟨_, _, _, _, _, _, _, rfl, _⟩ := h; rfl) | (obtain ⟨_, _, _, _, _, _, _, _, rfl, _⟩ := h; rfl) | (obtain ⟨_, _, _, _, _, _, _, _, _, rfl, _⟩ := h; rfl) | (obtain ⟨_, _, _, _, _, _, _, _, _, _, rfl, _⟩ := h; rfl) | (obtain ⟨_, _, _, _, _, _, _, _, _, _, _, rfl, _⟩ := h; rfl) | (obtain ⟨_, _, _, _, _, _, _, _, _, _, _, _, rfl, _⟩ := h; rfl) | (obtain ⟨_, _, _, _, _, _, _, _, _, _, _, _, _, rfl, _⟩ := h; rfl)
/-! ### sure_minute -/
def sp_sure_minute (K : PySem.W.Frag) : Sp := fun vs H Q _ => ∃ (n k : Int), vs = [.int n, .int k] ∧ 0 ≤ n ∧ n ≤ k - 1 ∧ Q .non H
theorem sp_sure_minute_use {K : PySem.W.Frag} {H : Hp} {Q : VK} {E : XK} {n k : Int} (h0 : 0 ≤ n) (h1 : n ≤ k - 1) (q : Q .non H) : sp_sure_minute K [.int n, .int k] H Q E := ⟨_, _, rfl, h0, h1, q⟩
local macro_rules | `(tactic| kas_types) => `(tactic| ((with_reducible refine sp_sure_minute_use ?a ?b ?_); (case a => omega); (case b => omega)))
def t_sure_minute (K : PySem.W.Frag) : TS :=
  (tIfS (tNot (tB (tCall (sp_is_between K) [] E0 (tCons (tVar 0) (tCons (tC (.int 0)) (tCons (tOp (rI0 fun i j => .int (i - j)) (tVar 1) (tC (.int 1))) tNil)))))) tNever tNext)
theorem run_sure_minute {K : PySem.W.Frag} {vs : List V} {H : Hp} {Q : VK} {E : XK} (h : sp_sure_minute K vs H Q E) : t_sure_minute K (Ends.mk (fun _ H' => Q .non H') Q (fun _ _ => False) (fun _ _ => False)) (start ["minute", "many"] vs) H := by
  obtain ⟨n, k, rfl, h0, h1, q⟩ := h
  unfold t_sure_minute
  k_ownIn
  exact q
theorem len_sure_minute {K : PySem.W.Frag} {vs : List V} {H : Hp} {Q : VK} {E : XK} (h : sp_sure_minute K vs H Q E) : vs.length = 2 := by
  first | (obtain ⟨rfl, _⟩ := h; rfl) | (obtain ⟨_, rfl, _⟩ := h; rfl) | (obtain ⟨_, _, rfl, _⟩ := h; rfl) | (obtain ⟨_, _, _, rfl, _⟩ := h; rfl) | (obtain ⟨_, _, _, _, rfl, _⟩ := h; rfl) | (obtain ⟨_, _, _, _, _, rfl, _⟩ := h; rfl) | (obtain ⟨_, _, _, _, _, _, rfl, _⟩ := h; rfl) | (obtain ⟨_, _, _, _, _, _, _, rfl, _⟩ := h; rfl) | (obtain ⟨_, _, _, _, _, _, _, _, rfl, _⟩ := h; rfl) | (obtain ⟨_, _, _, _, _, _, _, _, _, rfl, _⟩ := h; rfl) | (obtain ⟨_, _, _, _, _, _, _, _, _, _, rfl, _⟩ := h; rfl) | (obtain ⟨_, _, _, _, _, _, _, _, _, _, _, rfl, _⟩ := h; rfl) | (obtain ⟨_, _, _, _, _, _, _, _, _, _, _, _, rfl, _⟩ := h; rfl) | (obtain ⟨_, _, _, _, _, _, _, _, _, _, _, _, _, rfl, _⟩ := h; rfl)
/-! ### sure_zone -/
def sp_sure_zone (K : PySem.W.Frag) : Sp := fun vs H Q _ => ∃ (z : Int), vs = [.int z] ∧ -1439 ≤ z ∧ z ≤ 1439 ∧ Q .non H
theorem sp_sure_zone_use {K : PySem.W.Frag} {H : Hp} {Q : VK} {E : XK} {z : Int} (h0 : -1439 ≤ z) (h1 : z ≤ 1439) (q : Q .non H) : sp_sure_zone K [.int z] H Q E := ⟨_, rfl, h0, h1, q⟩
local macro_rules | `(tactic| kas_types) => `(tactic| ((with_reducible refine sp_sure_zone_use ?a ?b ?_); (case a => omega); (case b => omega)))
def t_sure_zone (K : PySem.W.Frag) : TS :=
  (tIfS (tNot (tB (tCall (sp_is_between K) [] E0 (tCons (tVar 0) (tCons (tOp (rI0 fun i j => .int (i - j)) (tC (.int 1)) (tC (.int 1440))) (tCons (tOp (rI0 fun i j => .int (i - j)) (tC (.int 1440)) (tC (.int 1))) tNil)))))) tNever tNext)
theorem run_sure_zone {K : PySem.W.Frag} {vs : List V} {H : Hp} {Q : VK} {E : XK} (h : sp_sure_zone K vs H Q E) : t_sure_zone K (Ends.mk (fun _ H' => Q .non H') Q (fun _ _ => False) (fun _ _ => False)) (start ["zone"] vs) H := by
  obtain ⟨z, rfl, h0, h1, q⟩ := h
  unfold t_sure_zone
  k_ownIn
  exact q
theorem len_sure_zone {K : PySem.W.Frag} {vs : List V} {H : Hp} {Q : VK} {E : XK} (h : sp_sure_zone K vs H Q E) : vs.length = 1 := by
  first | (obtain ⟨rfl, _⟩ := h; rfl) | (obtain ⟨_, rfl, _⟩ := h; rfl) | (obtain ⟨_, _, rfl, _⟩ := h; rfl) | (obtain ⟨_, _, _, rfl, _⟩ := h; rfl) | (obtain ⟨_, _, _, _, rfl, _⟩ := h; rfl) | (obtain ⟨_, _, _, _, _, rfl, _⟩ := h; rfl) | (obtain ⟨_, _, _, _, _, _, rfl, _⟩ := h; rfl) | (obtain ⟨_, _, _, _, _, _, _, rfl, _⟩ := h; rfl) | (obtain ⟨_, _, _, _, _, _, _, _, rfl, _⟩ := h; rfl) | (obtain ⟨_, _, _, _, _, _, _, _, _, rfl, _⟩ := h; rfl) | (obtain ⟨_, _, _, _, _, _, _, _, _, _, rfl, _⟩ := h; rfl) | (obtain ⟨_, _, _, _, _, _, _, _, _, _, _, rfl, _⟩ := h; rfl) | (obtain ⟨_, _, _, _, _, _, _, _, _, _, _, _, rfl, _⟩ := h; rfl) | (obtain ⟨_, _, _, _, _, _, _, _, _, _, _, _, _, rfl, _⟩ := h; rfl)
/-! ### shown -/
def sp_shown (K : PySem.W.Frag) : Sp := fun vs H Q _ => ∃ (m z : Int), vs = [.int m, .int z] ∧ -1439 ≤ z ∧ z ≤ 1439 ∧ ∀ p, H p = none → Q (.ref p) (upd H p (.tup [.int ((m + z) / 1440), .int ((m + z) % 1440)]))
theorem sp_shown_use {K : PySem.W.Frag} {H : Hp} {Q : VK} {E : XK} {m z : Int} (h0 : -1439 ≤ z) (h1 : z ≤ 1439) (q : ∀ p, H p = none → Q (.ref p) (upd H p (.tup [.int ((m + z) / 1440), .int ((m + z) % 1440)]))) : sp_shown K [.int m, .int z] H Q E := ⟨_, _, rfl, h0, h1, q⟩
local macro_rules | `(tactic| kas_types) => `(tactic| ((with_reducible refine sp_shown_use ?a ?b ?_); (case a => omega); (case b => omega)))
def t_shown (K : PySem.W.Frag) : TS :=
  (tSeq (tDrop (tCall (sp_sure_zone K) [] E0 (tCons (tVar 1) tNil)))
    (tRet (tCB rDivmod (tCons (tOp (rI0 fun i j => .int (i + j)) (tVar 0) (tVar 1)) (tCons (tC (.int 1440)) tNil)))))
theorem run_shown {K : PySem.W.Frag} {vs : List V} {H : Hp} {Q : VK} {E : XK} (h : sp_shown K vs H Q E) : t_shown K (Ends.mk (fun _ H' => Q .non H') Q (fun _ _ => False) (fun _ _ => False)) (start ["moment", "zone"] vs) H := by
  obtain ⟨m, z, rfl, h0, h1, q⟩ := h
  unfold t_shown
  k_ownIn
  exact q _ (by assumption)
theorem len_shown {K : PySem.W.Frag} {vs : List V} {H : Hp} {Q : VK} {E : XK} (h : sp_shown K vs H Q E) : vs.length = 2 := by
  first | (obtain ⟨rfl, _⟩ := h; rfl) | (obtain ⟨_, rfl, _⟩ := h; rfl) | (obtain ⟨_, _, rfl, _⟩ := h; rfl) | (obtain ⟨_, _, _, rfl, _⟩ := h; rfl) | (obtain ⟨_, _, _, _, rfl, _⟩ := h; rfl) | (obtain ⟨_, _, _, _, _, rfl, _⟩ := h; rfl) | (obtain ⟨_, _, _, _, _, _, rfl, _⟩ := h; rfl) | (obtain ⟨_, _, _, _, _, _, _, rfl, _⟩ := h; rfl) | (obtain ⟨_, _, _, _, _, _, _, _, rfl, _⟩ := h; rfl) | (obtain ⟨_, _, _, _, _, _, _, _, _, rfl, _⟩ := h; rfl) | (obtain ⟨_, _, _, _, _, _, _, _, _, _, rfl, _⟩ := h; rfl) | (obtain ⟨_, _, _, _, _, _, _, _, _, _, _, rfl, _⟩ := h; rfl) | (obtain ⟨_, _, _, _, _, _, _, _, _, _, _, _, rfl, _⟩ := h; rfl) | (obtain ⟨_, _, _, _, _, _, _, _, _, _, _, _, _, rfl, _⟩ := h; rfl)
/-! ### next_hour -/
def sp_next_hour (K : PySem.W.Frag) : Sp := fun vs H Q _ => ∃ (n z m : Int), vs = [.int n, .int z, .int m] ∧ 0 ≤ n ∧ n ≤ 59 ∧ -1439 ≤ z ∧ z ≤ 1439 ∧ ∀ H', Same H H' → Q (.int (m + (n - (m + z) % 1440) % 60)) H'
theorem sp_next_hour_use {K : PySem.W.Frag} {H : Hp} {Q : VK} {E : XK} {n z m : Int} (n0 : 0 ≤ n) (n1 : n ≤ 59) (z0 : -1439 ≤ z) (z1 : z ≤ 1439) (q : ∀ H', Same H H' → Q (.int (m + (n - (m + z) % 1440) % 60)) H') : sp_next_hour K [.int n, .int z, .int m] H Q E := ⟨_, _, _, rfl, n0, n1, z0, z1, q⟩
local macro_rules | `(tactic| kas_types) => `(tactic| ((with_reducible refine sp_next_hour_use ?a ?b ?c ?d (fun H' s => ?_)); (case a => omega); (case b => omega); (case c => omega); (case d => omega)))
def t_next_hour (K : PySem.W.Frag) : TS :=
  (tSeq (tDrop (tCall (sp_sure_minute K) [] E0 (tCons (tVar 0) (tCons (tC (.int 60)) tNil))))
    (tRet (tOp (rI0 fun i j => .int (i + j)) (tVar 2) (tOp (rI (fun _ j => 0 < j) fun i j => .int (i % j)) (tOp (rI0 fun i j => .int (i - j)) (tVar 0) (tOp (rIx K) (tCall (sp_shown K) [] E0 (tCons (tVar 2) (tCons (tVar 1) tNil))) (tC (.int 1)))) (tC (.int 60))))))
theorem run_next_hour {K : PySem.W.Frag} {vs : List V} {H : Hp} {Q : VK} {E : XK} (h : sp_next_hour K vs H Q E) : t_next_hour K (Ends.mk (fun _ H' => Q .non H') Q (fun _ _ => False) (fun _ _ => False)) (start ["minute", "zone", "moment"] vs) H := by
  obtain ⟨n, z, m, rfl, n0, n1, z0, z1, q⟩ := h
  unfold t_next_hour
  k_ownIn
  exact q _ (by k_subL)
theorem len_next_hour {K : PySem.W.Frag} {vs : List V} {H : Hp} {Q : VK} {E : XK} (h : sp_next_hour K vs H Q E) : vs.length = 3 := by
  first | (obtain ⟨rfl, _⟩ := h; rfl) | (obtain ⟨_, rfl, _⟩ := h; rfl) | (obtain ⟨_, _, rfl, _⟩ := h; rfl) | (obtain ⟨_, _, _, rfl, _⟩ := h; rfl) | (obtain ⟨_, _, _, _, rfl, _⟩ := h; rfl) | (obtain ⟨_, _, _, _, _, rfl, _⟩ := h; rfl) | (obtain ⟨_, _, _, _, _, _, rfl, _⟩ := h; rfl) | (obtain ⟨_, _, _, _, _, _, _, rfl, _⟩ := h; rfl) | (obtain ⟨_, _, _, _, _, _, _, _, rfl, _⟩ := h; rfl) | (obtain ⟨_, _, _, _, _, _, _, _, _, rfl, _⟩ := h; rfl) | (obtain ⟨_, _, _, _, _, _, _, _, _, _, rfl, _⟩ := h; rfl) | (obtain ⟨_, _, _, _, _, _, _, _, _, _, _, rfl, _⟩ := h; rfl) | (obtain ⟨_, _, _, _, _, _, _, _, _, _, _, _, rfl, _⟩ := h; rfl) | (obtain ⟨_, _, _, _, _, _, _, _, _, _, _, _, _, rfl, _⟩ := h; rfl)
/-! ### _law_whole -/
def sp_law_whole (K : PySem.W.Frag) : Sp := fun vs H Q _ => ∃ (i : Int), vs = [.int i] ∧ Q (.bl true) H
theorem sp_lwhole_int {K : PySem.W.Frag} {H : Hp} {Q : VK} {E : XK} {i : Int} (q : Q (.bl true) H) : sp_law_whole K [.int i] H Q E := ⟨_, rfl, q⟩
local macro_rules | `(tactic| kas_types) => `(tactic| (with_reducible refine sp_lwhole_int ?_))
def t_law_whole (K : PySem.W.Frag) : TS :=
  (tRet (tAndV (tCB (rIsi K) (tCons (tVar 0) (tCons (tC (.ty "int")) tNil))) (tNotV (tCB (rIsi K) (tCons (tVar 0) (tCons (tC (.ty "bool")) tNil))))))
theorem run_law_whole {K : PySem.W.Frag} {vs : List V} {H : Hp} {Q : VK} {E : XK} (h : sp_law_whole K vs H Q E) : t_law_whole K (Ends.mk (fun _ H' => Q .non H') Q (fun _ _ => False) (fun _ _ => False)) (start ["_law_found"] vs) H := by
  obtain ⟨i, rfl, q⟩ := h
  unfold t_law_whole
  k_ownIn
  exact q
theorem len_law_whole {K : PySem.W.Frag} {vs : List V} {H : Hp} {Q : VK} {E : XK} (h : sp_law_whole K vs H Q E) : vs.length = 1 := by
  first | (obtain ⟨rfl, _⟩ := h; rfl) | (obtain ⟨_, rfl, _⟩ := h; rfl) | (obtain ⟨_, _, rfl, _⟩ := h; rfl) | (obtain ⟨_, _, _, rfl, _⟩ := h; rfl) | (obtain ⟨_, _, _, _, rfl, _⟩ := h; rfl) | (obtain ⟨_, _, _, _, _, rfl, _⟩ := h; rfl) | (obtain ⟨_, _, _, _, _, _, rfl, _⟩ := h; rfl) | (obtain ⟨_, _, _, _, _, _, _, rfl, _⟩ := h; rfl) | (obtain ⟨_, _, _, _, _, _, _, _, rfl, _⟩ := h; rfl) | (obtain ⟨_, _, _, _, _, _, _, _, _, rfl, _⟩ := h; rfl) | (obtain ⟨_, _, _, _, _, _, _, _, _, _, rfl, _⟩ := h; rfl) | (obtain ⟨_, _, _, _, _, _, _, _, _, _, _, rfl, _⟩ := h; rfl) | (obtain ⟨_, _, _, _, _, _, _, _, _, _, _, _, rfl, _⟩ := h; rfl) | (obtain ⟨_, _, _, _, _, _, _, _, _, _, _, _, _, rfl, _⟩ := h; rfl)
/-! ### _law_hour_right -/
def sp_law_hour_right (K : PySem.W.Frag) : Sp := fun vs H Q _ => ∃ (n z m : Int), vs = [.int n, .int z, .int m] ∧ 0 ≤ n ∧ n ≤ 59 ∧ -1439 ≤ z ∧ z ≤ 1439 ∧ ∀ H', Same H H' → Q (.bl true) H'
theorem sp_hour_right_use {K : PySem.W.Frag} {H : Hp} {Q : VK} {E : XK} {n z m : Int} (n0 : 0 ≤ n) (n1 : n ≤ 59) (z0 : -1439 ≤ z) (z1 : z ≤ 1439) (q : ∀ H', Same H H' → Q (.bl true) H') : sp_law_hour_right K [.int n, .int z, .int m] H Q E := ⟨_, _, _, rfl, n0, n1, z0, z1, q⟩
local macro_rules | `(tactic| kas_types) => `(tactic| ((with_reducible refine sp_hour_right_use ?a ?b ?c ?d (fun H' s => ?_)); (case a => omega); (case b => omega); (case c => omega); (case d => omega)))
def t_law_hour_right (K : PySem.W.Frag) : TS :=
  (tSeq (tAsg (tVar 2) (gName 3))
    (tSeq (tWhile (tTest (tOp rNe (tOp (rI (fun _ j => 0 < j) fun i j => .int (i % j)) (tOp (rI0 fun i j => .int (i + j)) (tVar 3) (tVar 1)) (tC (.int 60))) (tVar 0)))
    (tAsg (tOp (rI0 fun i j => .int (i + j)) (tVar 3) (tC (.int 1))) (gName 3)))
    (tSeq (tAsg (tCall (sp_next_hour K) [] E0 (tCons (tVar 0) (tCons (tVar 1) (tCons (tVar 2) tNil)))) (gName 4))
    (tSeq (tIfS (tOr (tNot (tB (tCall (sp_law_whole K) [] E0 (tCons (tVar 4) tNil)))) (tTest (tOp rNe (tVar 4) (tVar 3)))) (tRet (tC (.bl false))) tNext)
    (tRet (tAndV (tOp rEq (tCall (sp_next_hour K) [] E0 (tCons (tVar 0) (tCons (tVar 1) (tCons (tVar 3) tNil)))) (tVar 3)) (tOp rEq (tCall (sp_next_hour K) [] E0 (tCons (tVar 0) (tCons (tVar 1) (tCons (tOp (rI0 fun i j => .int (i + j)) (tVar 3) (tC (.int 1))) tNil)))) (tOp (rI0 fun i j => .int (i + j)) (tVar 3) (tC (.int 60))))))))))
theorem run_law_hour_right {K : PySem.W.Frag} {vs : List V} {H : Hp} {Q : VK} {E : XK} (h : sp_law_hour_right K vs H Q E) : t_law_hour_right K (Ends.mk (fun _ H' => Q .non H') Q (fun _ _ => False) (fun _ _ => False)) (start ["_law_minute", "_law_zone", "_law_moment_here", "_law_due", "_law_found"] vs) H := by
  obtain ⟨n, z, m, rfl, n0, n1, z0, z1, q⟩ := h
  unfold t_law_hour_right
  k_ownIn
  refine r_while (fun k σ' H' => ∃ d : Int, 0 ≤ d ∧ d + k = (n - (m + z)) % 60 ∧ σ' = [some (.int n), some (.int z), some (.int m), some (.int (m + d)), none] ∧ H' = H) ((n - (m + z)) % 60).toNat ⟨0, by omega, by omega, by rw [Int.add_zero]; rfl, rfl⟩ ?_
  rintro k σ' H' ⟨d, d0, hd, rfl, rfl⟩
  k_ownIn
  refine whB (fun hb N hN => ?_) (fun hb => ?_)
  · have hne : ¬ (m + d + z) % 60 = n := by simpa using hb
    k_ownIn
    refine hN (k - 1) _ _ (by omega) ⟨d + 1, by omega, by omega, ?_, rfl⟩
    rw [← Int.add_assoc]
    rfl
  · have he : (m + d + z) % 60 = n := by simpa using hb
    k_ownIn
    exact q_t (by omega) (q _ (by k_subL))
theorem len_law_hour_right {K : PySem.W.Frag} {vs : List V} {H : Hp} {Q : VK} {E : XK} (h : sp_law_hour_right K vs H Q E) : vs.length = 3 := by
  first | (obtain ⟨rfl, _⟩ := h; rfl) | (obtain ⟨_, rfl, _⟩ := h; rfl) | (obtain ⟨_, _, rfl, _⟩ := h; rfl) | (obtain ⟨_, _, _, rfl, _⟩ := h; rfl) | (obtain ⟨_, _, _, _, rfl, _⟩ := h; rfl) | (obtain ⟨_, _, _, _, _, rfl, _⟩ := h; rfl) | (obtain ⟨_, _, _, _, _, _, rfl, _⟩ := h; rfl) | (obtain ⟨_, _, _, _, _, _, _, rfl, _⟩ := h; rfl) | (obtain ⟨_, _, _, _, _, _, _, _, rfl, _⟩ := h; rfl) | (obtain ⟨_, _, _, _, _, _, _, _, _, rfl, _⟩ := h; rfl) | (obtain ⟨_, _, _, _, _, _, _, _, _, _, rfl, _⟩ := h; rfl) | (obtain ⟨_, _, _, _, _, _, _, _, _, _, _, rfl, _⟩ := h; rfl) | (obtain ⟨_, _, _, _, _, _, _, _, _, _, _, _, rfl, _⟩ := h; rfl) | (obtain ⟨_, _, _, _, _, _, _, _, _, _, _, _, _, rfl, _⟩ := h; rfl)
/-! ### next_day -/
def sp_next_day (K : PySem.W.Frag) : Sp := fun vs H Q _ => ∃ (n z m : Int), vs = [.int n, .int z, .int m] ∧ 0 ≤ n ∧ n ≤ 1439 ∧ -1439 ≤ z ∧ z ≤ 1439 ∧ ∀ H', Same H H' → Q (.int (m + (n - (m + z) % 1440) % 1440)) H'
theorem sp_next_day_use {K : PySem.W.Frag} {H : Hp} {Q : VK} {E : XK} {n z m : Int} (n0 : 0 ≤ n) (n1 : n ≤ 1439) (z0 : -1439 ≤ z) (z1 : z ≤ 1439) (q : ∀ H', Same H H' → Q (.int (m + (n - (m + z) % 1440) % 1440)) H') : sp_next_day K [.int n, .int z, .int m] H Q E := ⟨_, _, _, rfl, n0, n1, z0, z1, q⟩
local macro_rules | `(tactic| kas_types) => `(tactic| ((with_reducible refine sp_next_day_use ?a ?b ?c ?d (fun H' s => ?_)); (case a => omega); (case b => omega); (case c => omega); (case d => omega)))
def t_next_day (K : PySem.W.Frag) : TS :=
  (tSeq (tDrop (tCall (sp_sure_minute K) [] E0 (tCons (tVar 0) (tCons (tC (.int 1440)) tNil))))
    (tRet (tOp (rI0 fun i j => .int (i + j)) (tVar 2) (tOp (rI (fun _ j => 0 < j) fun i j => .int (i % j)) (tOp (rI0 fun i j => .int (i - j)) (tVar 0) (tOp (rIx K) (tCall (sp_shown K) [] E0 (tCons (tVar 2) (tCons (tVar 1) tNil))) (tC (.int 1)))) (tC (.int 1440))))))
theorem run_next_day {K : PySem.W.Frag} {vs : List V} {H : Hp} {Q : VK} {E : XK} (h : sp_next_day K vs H Q E) : t_next_day K (Ends.mk (fun _ H' => Q .non H') Q (fun _ _ => False) (fun _ _ => False)) (start ["minute", "zone", "moment"] vs) H := by
  obtain ⟨n, z, m, rfl, n0, n1, z0, z1, q⟩ := h
  unfold t_next_day
  k_ownIn
  exact q _ (by k_subL)
theorem len_next_day {K : PySem.W.Frag} {vs : List V} {H : Hp} {Q : VK} {E : XK} (h : sp_next_day K vs H Q E) : vs.length = 3 := by
  first | (obtain ⟨rfl, _⟩ := h; rfl) | (obtain ⟨_, rfl, _⟩ := h; rfl) | (obtain ⟨_, _, rfl, _⟩ := h; rfl) | (obtain ⟨_, _, _, rfl, _⟩ := h; rfl) | (obtain ⟨_, _, _, _, rfl, _⟩ := h; rfl) | (obtain ⟨_, _, _, _, _, rfl, _⟩ := h; rfl) | (obtain ⟨_, _, _, _, _, _, rfl, _⟩ := h; rfl) | (obtain ⟨_, _, _, _, _, _, _, rfl, _⟩ := h; rfl) | (obtain ⟨_, _, _, _, _, _, _, _, rfl, _⟩ := h; rfl) | (obtain ⟨_, _, _, _, _, _, _, _, _, rfl, _⟩ := h; rfl) | (obtain ⟨_, _, _, _, _, _, _, _, _, _, rfl, _⟩ := h; rfl) | (obtain ⟨_, _, _, _, _, _, _, _, _, _, _, rfl, _⟩ := h; rfl) | (obtain ⟨_, _, _, _, _, _, _, _, _, _, _, _, rfl, _⟩ := h; rfl) | (obtain ⟨_, _, _, _, _, _, _, _, _, _, _, _, _, rfl, _⟩ := h; rfl)
/-! ### _law_day_right -/
def sp_law_day_right (K : PySem.W.Frag) : Sp := fun vs H Q _ => ∃ (n z m : Int), vs = [.int n, .int z, .int m] ∧ 0 ≤ n ∧ n ≤ 1439 ∧ -1439 ≤ z ∧ z ≤ 1439 ∧ ∀ H', Same H H' → Q (.bl true) H'
theorem sp_day_right_use {K : PySem.W.Frag} {H : Hp} {Q : VK} {E : XK} {n z m : Int} (n0 : 0 ≤ n) (n1 : n ≤ 1439) (z0 : -1439 ≤ z) (z1 : z ≤ 1439) (q : ∀ H', Same H H' → Q (.bl true) H') : sp_law_day_right K [.int n, .int z, .int m] H Q E := ⟨_, _, _, rfl, n0, n1, z0, z1, q⟩
local macro_rules | `(tactic| kas_types) => `(tactic| ((with_reducible refine sp_day_right_use ?a ?b ?c ?d (fun H' s => ?_)); (case a => omega); (case b => omega); (case c => omega); (case d => omega)))
def t_law_day_right (K : PySem.W.Frag) : TS :=
  (tSeq (tAsg (tCall (sp_next_day K) [] E0 (tCons (tVar 0) (tCons (tVar 1) (tCons (tVar 2) tNil)))) (gName 3))
    (tSeq (tIfS (tOr (tNot (tB (tCall (sp_law_whole K) [] E0 (tCons (tVar 3) tNil)))) (tOr (tTest (tOp (rI0 fun i j => .bl (decide (i < j))) (tVar 3) (tVar 2))) (tOr (tTest (tOp (rI0 fun i j => .bl (decide (j < i))) (tOp (rI0 fun i j => .int (i - j)) (tVar 3) (tVar 2)) (tC (.int 1439)))) (tTest (tOp rNe (tOp (rI (fun _ j => 0 < j) fun i j => .int (i % j)) (tOp (rI0 fun i j => .int (i + j)) (tVar 3) (tVar 1)) (tC (.int 1440))) (tVar 0)))))) (tRet (tC (.bl false))) tNext)
    (tRet (tAndV (tOp rEq (tCall (sp_next_day K) [] E0 (tCons (tVar 0) (tCons (tVar 1) (tCons (tVar 3) tNil)))) (tVar 3)) (tOp rEq (tCall (sp_next_day K) [] E0 (tCons (tVar 0) (tCons (tVar 1) (tCons (tOp (rI0 fun i j => .int (i + j)) (tVar 3) (tC (.int 1))) tNil)))) (tOp (rI0 fun i j => .int (i + j)) (tVar 3) (tC (.int 1440))))))))
theorem run_law_day_right {K : PySem.W.Frag} {vs : List V} {H : Hp} {Q : VK} {E : XK} (h : sp_law_day_right K vs H Q E) : t_law_day_right K (Ends.mk (fun _ H' => Q .non H') Q (fun _ _ => False) (fun _ _ => False)) (start ["_law_minute", "_law_zone", "_law_moment_here", "_law_found"] vs) H := by
  obtain ⟨n, z, m, rfl, n0, n1, z0, z1, q⟩ := h
  unfold t_law_day_right
  k_ownIn
  exact q_t (by omega) (q _ (by k_subL))
theorem len_law_day_right {K : PySem.W.Frag} {vs : List V} {H : Hp} {Q : VK} {E : XK} (h : sp_law_day_right K vs H Q E) : vs.length = 3 := by
  first | (obtain ⟨rfl, _⟩ := h; rfl) | (obtain ⟨_, rfl, _⟩ := h; rfl) | (obtain ⟨_, _, rfl, _⟩ := h; rfl) | (obtain ⟨_, _, _, rfl, _⟩ := h; rfl) | (obtain ⟨_, _, _, _, rfl, _⟩ := h; rfl) | (obtain ⟨_, _, _, _, _, rfl, _⟩ := h; rfl) | (obtain ⟨_, _, _, _, _, _, rfl, _⟩ := h; rfl) | (obtain ⟨_, _, _, _, _, _, _, rfl, _⟩ := h; rfl) | (obtain ⟨_, _, _, _, _, _, _, _, rfl, _⟩ := h; rfl) | (obtain ⟨_, _, _, _, _, _, _, _, _, rfl, _⟩ := h; rfl) | (obtain ⟨_, _, _, _, _, _, _, _, _, _, rfl, _⟩ := h; rfl) | (obtain ⟨_, _, _, _, _, _, _, _, _, _, _, rfl, _⟩ := h; rfl) | (obtain ⟨_, _, _, _, _, _, _, _, _, _, _, _, rfl, _⟩ := h; rfl) | (obtain ⟨_, _, _, _, _, _, _, _, _, _, _, _, _, rfl, _⟩ := h; rfl)
/-! ### law -/
def sp_law (K : PySem.W.Frag) : Sp := fun vs H Q _ => ∃ (a : Addr) (ns : List Int), vs = [.ref a] ∧ SqL K H a (ns.map V.int) ∧ ns.length ≤ 63 ∧ ∀ H', Q (.bl true) H'
def t_law (K : PySem.W.Frag) : TS :=
  (tSeq (tFor (iList K (tOp rCat (tLst (tCons (tCall (sp_law_cell_at K) [] E0 (tCons (tVar 0) (tCons (tC (.int 0)) tNil))) tNil)) (tSl (rSlL K) (tVar 0) (tPart (tC (.int 1))) (tPart (tC (.int 40)))))) (gName 1)
    (tSeq (tAsg (tCall (sp_law_well K) [] E0 (tCons (tVar 1) tNil)) (gName 2))
    (tSeq (tAsg (tOp (rIx K) (tLst (tCons (tC (.int 0)) (tCons (tC (.int 1439)) (tCons (tUn (rU fun i => .int (-i)) (tC (.int 1439))) (tCons (tOp (rI0 fun i j => .int (i - j)) (tCall (sp_law_draw K) [] E0 (tCons (tVar 2) (tCons (tC (.int 2879)) tNil))) (tC (.int 1439))) tNil))))) (tCall (sp_law_draw K) [] E0 (tCons (tVar 2) (tCons (tC (.int 4)) tNil)))) (gName 3))
    (tSeq (tAsg (tOp (rIx K) (tLst (tCons (tC (.int 0)) (tCons (tC (.int 59)) (tCons (tCall (sp_law_draw K) [] E0 (tCons (tVar 2) (tCons (tC (.int 60)) tNil))) (tCons (tCall (sp_law_draw K) [] E0 (tCons (tVar 2) (tCons (tC (.int 60)) tNil))) tNil))))) (tCall (sp_law_draw K) [] E0 (tCons (tVar 2) (tCons (tC (.int 4)) tNil)))) (gName 4))
    (tSeq (tAsg (tOp (rIx K) (tLst (tCons (tC (.int 0)) (tCons (tC (.int 1439)) (tCons (tCall (sp_law_draw K) [] E0 (tCons (tVar 2) (tCons (tC (.int 1440)) tNil))) (tCons (tVar 4) tNil))))) (tCall (sp_law_draw K) [] E0 (tCons (tVar 2) (tCons (tC (.int 4)) tNil)))) (gName 5))
    (tSeq (tAsg (tCall (sp_law_moment K) [] E0 (tCons (tVar 2) (tCons (tVar 3) (tCons (tVar 5) tNil)))) (gName 6))
    (tSeq (tIfS (tOr (tNot (tB (tCall (sp_law_hour_right K) [] E0 (tCons (tVar 4) (tCons (tVar 3) (tCons (tVar 6) tNil)))))) (tNot (tB (tCall (sp_law_day_right K) [] E0 (tCons (tVar 5) (tCons (tVar 3) (tCons (tVar 6) tNil))))))) (tRet (tC (.bl false))) tNext)
    (tIfS (tNot (tB (tCall (sp_law_hour_right K) [] E0 (tCons (tOp (rI (fun _ j => 0 < j) fun i j => .int (i % j)) (tVar 5) (tC (.int 60))) (tCons (tVar 3) (tCons (tVar 6) tNil)))))) (tRet (tC (.bl false))) tNext))))))))
    (tRet (tC (.bl true))))
theorem run_law {K : PySem.W.Frag} {vs : List V} {H : Hp} {Q : VK} {E : XK} (h : sp_law K vs H Q E) : t_law K (Ends.mk (fun _ H' => Q .non H') Q (fun _ _ => False) (fun _ _ => False)) (start ["_law_script", "_law_cell", "_law_well_here", "_law_zone", "_law_hour", "_law_day", "_law_moment_here"] vs) H := by
  obtain ⟨a, ns, rfl, hS, hlen, q⟩ := h
  unfold t_law
  k_ownIn
  refine r_loopL (fun i σ' H' => (∃ v1 v2 v3 v4 v5 v6 : Option V, σ' = [some (.ref a), v1, v2, v3, v4, v5, v6]) ∧ Same _ H') (SqL.of upd_same) ⟨⟨_, _, _, _, _, _, rfl⟩, Same.refl _⟩ (fun i σ' H' p => Same.seq p.2 (SqL.of upd_same)) ?_ ?_
  · rintro i x σ' H' N hx ⟨⟨v1, v2, v3, v4, v5, v6, rfl⟩, hs⟩ hN
    obtain ⟨c, rfl⟩ := cells_int (List.mem_of_getElem? hx)
    generalize upd (upd (upd H _ _) _ _) _ _ = H1 at hs hN
    k_ownIn
    refine r_ixA (fun x => ∃ z : Int, x = .int z ∧ -1439 ≤ z ∧ z ≤ 1439) (by k_places) (by omega) (by simp only [List.length]; omega) ?_ ?_
    · intro x hx
      simp only [List.mem_cons, List.not_mem_nil, or_false] at hx
      rcases hx with rfl | rfl | rfl | rfl <;> exact ⟨_, rfl, by omega, by omega⟩
    · rintro x ⟨z, rfl, z0, z1⟩
      k_ownIn
      refine r_ixA (fun x => ∃ z : Int, x = .int z ∧ 0 ≤ z ∧ z ≤ 59) (by k_places) (by omega) (by simp only [List.length]; omega) ?_ ?_
      · intro x hx
        simp only [List.mem_cons, List.not_mem_nil, or_false] at hx
        rcases hx with rfl | rfl | rfl | rfl <;> exact ⟨_, rfl, by omega, by omega⟩
      · rintro x ⟨h, rfl, h0, h1⟩
        k_ownIn
        refine r_ixA (fun x => ∃ z : Int, x = .int z ∧ 0 ≤ z ∧ z ≤ 1439) (by k_places) (by omega) (by simp only [List.length]; omega) ?_ ?_
        · intro x hx
          simp only [List.mem_cons, List.not_mem_nil, or_false] at hx
          rcases hx with rfl | rfl | rfl | rfl <;> exact ⟨_, rfl, by omega, by omega⟩
        · rintro x ⟨d, rfl, d0, d1⟩
          k_ownIn
          kbt_split
          k_ownIn
          kbt_split
          k_ownIn
          exact hN _ _ ⟨⟨_, _, _, _, _, _, rfl⟩, Same.ofKp hs (by assumption) (by k_subL)⟩
  · rintro σ' H' ⟨⟨v1, v2, v3, v4, v5, v6, rfl⟩, hs⟩
    k_ownIn
    exact q _
theorem len_law {K : PySem.W.Frag} {vs : List V} {H : Hp} {Q : VK} {E : XK} (h : sp_law K vs H Q E) : vs.length = 1 := by
  first | (obtain ⟨rfl, _⟩ := h; rfl) | (obtain ⟨_, rfl, _⟩ := h; rfl) | (obtain ⟨_, _, rfl, _⟩ := h; rfl) | (obtain ⟨_, _, _, rfl, _⟩ := h; rfl) | (obtain ⟨_, _, _, _, rfl, _⟩ := h; rfl) | (obtain ⟨_, _, _, _, _, rfl, _⟩ := h; rfl) | (obtain ⟨_, _, _, _, _, _, rfl, _⟩ := h; rfl) | (obtain ⟨_, _, _, _, _, _, _, rfl, _⟩ := h; rfl) | (obtain ⟨_, _, _, _, _, _, _, _, rfl, _⟩ := h; rfl) | (obtain ⟨_, _, _, _, _, _, _, _, _, rfl, _⟩ := h; rfl) | (obtain ⟨_, _, _, _, _, _, _, _, _, _, rfl, _⟩ := h; rfl) | (obtain ⟨_, _, _, _, _, _, _, _, _, _, _, rfl, _⟩ := h; rfl) | (obtain ⟨_, _, _, _, _, _, _, _, _, _, _, _, rfl, _⟩ := h; rfl) | (obtain ⟨_, _, _, _, _, _, _, _, _, _, _, _, _, rfl, _⟩ := h; rfl)
section
variable {P : Program} {w : World} {K : PySem.W.Frag} {mg : Str → Option Value} {base : Heap}
theorem sc_law_well : FnScope ["_law_cell"] ["_law_cell"] (defScope s_law_well) := ⟨rfl, rfl, rfl, by decide +kernel, rfl, by decide +kernel, by decide +kernel⟩
theorem okA_law_well (Z : Env K mg) {fd : FuncData} (F : FunD K d_law_well.name d_law_well.qual d_law_well.params d_law_well.body d_law_well.scope (d_law_well.dvs K) (d_law_well.kws K) (fAd K d_law_well.at_) fd) : FnOk P w K mg base CX0 1 (ga K "_law_well") fd ["_law_cell"] (sp_law_well K) := by
  refine F.ok sc_law_well (fun vs H Q E h => len_law_well h) (fun cdv A outer s H vs Q E hr h => ⟨t_law_well K, PSs.nox ?_, run_law_well h⟩)
  exact (pss_one (ps_ret (pe_lst (pa_cons (pe_op op_fdiv (pv 0) pe_int) (pa_cons (pe_op op_mod (pv 0) pe_int) (pa_cons (pe_op op_mod (pv 0) pe_int) (pa_cons pe_int pa_nil)))))))
theorem ok_law_well (Z : Env K mg) : ∃ fd, FnOk P w K mg base CX0 1 (ga K "_law_well") fd ["_law_cell"] (sp_law_well K) ∧ Binds K fd ["_law_cell"] [] ∧ PySem.W.keepIn K (.ref (ga K "_law_well")) = true := by
  obtain ⟨fd, F⟩ := Z.c.def_ 0 (d := d_law_well) rfl
  exact ⟨fd, okA_law_well Z F, F.bindsN fun _ _ _ _ _ _ us hl => match us, hl with | [_], _ => rfl, F.kp⟩
theorem sc_law_mixed : FnScope ["_law_cell", "_law_k", "_law_number"] ["_law_cell", "_law_k"] (defScope s_law_mixed) := ⟨rfl, rfl, rfl, by decide +kernel, rfl, by decide +kernel, by decide +kernel⟩
theorem okA_law_mixed (Z : Env K mg) {fd : FuncData} (F : FunD K d_law_mixed.name d_law_mixed.qual d_law_mixed.params d_law_mixed.body d_law_mixed.scope (d_law_mixed.dvs K) (d_law_mixed.kws K) (fAd K d_law_mixed.at_) fd) : FnOk P w K mg base CX0 1 (ga K "_law_mixed") fd ["_law_cell", "_law_k"] (sp_law_mixed K) := by
  refine F.ok sc_law_mixed (fun vs H Q E h => len_law_mixed h) (fun cdv A outer s H vs Q E hr h => ⟨t_law_mixed K, PSs.nox ?_, run_law_mixed h⟩)
  exact (pss_cons (ps_set (i := 2) sc_law_mixed.nd rfl (Or.inl rfl) (pe_op op_mod (pe_op op_mul (pe_op op_add (pe_op op_add (pv 0) (pe_op op_mul pe_int (pv 1))) pe_int) pe_int) pe_int))
    (pss_cons (ps_set (i := 2) sc_law_mixed.nd rfl (Or.inl rfl) (pe_op op_mod (pe_op op_mul (pv 2) (pe_op op_add (pe_op op_fdiv (pv 2) pe_int) pe_int)) pe_int))
    (pss_one (ps_ret (pe_op op_mod (pe_op op_mul (pv 2) (pe_op op_add (pe_op op_add (pe_op op_fdiv (pv 2) pe_int) pe_int) (pv 1))) pe_int)))))
theorem ok_law_mixed (Z : Env K mg) : ∃ fd, FnOk P w K mg base CX0 1 (ga K "_law_mixed") fd ["_law_cell", "_law_k"] (sp_law_mixed K) ∧ Binds K fd ["_law_cell", "_law_k"] [] ∧ PySem.W.keepIn K (.ref (ga K "_law_mixed")) = true := by
  obtain ⟨fd, F⟩ := Z.c.def_ 1 (d := d_law_mixed) rfl
  exact ⟨fd, okA_law_mixed Z F, F.bindsN fun _ _ _ _ _ _ us hl => match us, hl with | [_, _], _ => rfl, F.kp⟩
theorem sc_law_draw : FnScope ["_law_well_here", "_law_most", "_law_found", "_law_turn"] ["_law_well_here", "_law_most"] (defScope s_law_draw) := ⟨rfl, rfl, rfl, by decide +kernel, rfl, by decide +kernel, by decide +kernel⟩
theorem okA_law_draw (Z : Env K mg) {fd : FuncData} (F : FunD K d_law_draw.name d_law_draw.qual d_law_draw.params d_law_draw.body d_law_draw.scope (d_law_draw.dvs K) (d_law_draw.kws K) (fAd K d_law_draw.at_) fd) : FnOk P w K mg base CX0 2 (ga K "_law_draw") fd ["_law_well_here", "_law_most"] (sp_law_draw K) := by
  obtain ⟨fd_law_mixed, G_law_mixed, b_law_mixed, k_law_mixed⟩ := ok_law_mixed (P := P) (w := w) (base := base) Z
  have g__law_mixed := Z.glo 0 (x := "_law_mixed") rfl
  have z_int := Z.free 1 (x := "int") rfl
  have z_range := Z.free 2 (x := "range") rfl
  refine F.ok sc_law_draw (fun vs H Q E h => len_law_draw h) (fun cdv A outer s H vs Q E hr h => ⟨t_law_draw K, PSs.nox ?_, run_law_draw h⟩)
  exact (pss_cons (ps_if (PW.pt (pw_and (pt_cmpR op_eq (pe_ix ix_seq (pv 0) pe_int (fun _ _ => rfl)) pe_int (nomark _)) (pw_and1 (pt_cmpR op_gt (pe_ix ix_seq (pv 0) pe_int (fun _ _ => rfl)) pe_int (nomark _))))) (pss_cons (ps_set (i := 2) sc_law_draw.nd rfl (Or.inl rfl) (pe_op op_mod (pe_ix ix_seq (pv 0) pe_int (fun _ _ => rfl)) (pv 1)))
    (pss_cons (ps_asg (pe_op op_fdivW (pe_ix ix_seq (pv 0) pe_int (fun _ _ => rfl)) (pv 1)) (pg_sub (pv 0) pe_int set_list))
    (pss_one (ps_ret (pv 2))))) pss_nil)
    (pss_cons (ps_set (i := 2) sc_law_draw.nd rfl (Or.inl rfl) pe_int)
    (pss_cons (ps_for PassesOwn.never rfl (pi_range1 rfl z_range (pa_cons (pe_op op_add pe_int (pe_op op_mul pe_int (pe_callTy call_int1 (by rfl) z_int (by decide +kernel) (pa_cons (pe_cmpR op_gt (pv 1) (pe_pow2 (r := 1000000) (by decide) ⟨by decide, by decide, by decide⟩) (nomark _)) pa_nil)))) pa_nil)) (pg_name (i := 3) sc_law_draw.nd rfl (Or.inl rfl))
    (pss_cons (ps_asg (pe_op op_add (pe_ix ix_seq (pv 0) pe_int (fun _ _ => rfl)) pe_int) (pg_sub (pv 0) pe_int set_list))
    (pss_one (ps_set (i := 2) sc_law_draw.nd rfl (Or.inl rfl) (pe_op op_add (pe_op op_mul (pv 2) pe_int) (pe_call G_law_mixed (hr.mono (by decide)) rfl g__law_mixed k_law_mixed b_law_mixed .nil pass0 (pa_cons (pe_ix ix_seq (pv 0) pe_int (fun _ _ => rfl)) (pa_cons (pe_ix ix_seq (pv 0) pe_int (fun _ _ => rfl)) pa_nil))))))))
    (pss_one (ps_ret (pe_op op_mod (pv 2) (pv 1)))))))
theorem ok_law_draw (Z : Env K mg) : ∃ fd, FnOk P w K mg base CX0 2 (ga K "_law_draw") fd ["_law_well_here", "_law_most"] (sp_law_draw K) ∧ Binds K fd ["_law_well_here", "_law_most"] [] ∧ PySem.W.keepIn K (.ref (ga K "_law_draw")) = true := by
  obtain ⟨fd, F⟩ := Z.c.def_ 2 (d := d_law_draw) rfl
  exact ⟨fd, okA_law_draw Z F, F.bindsN fun _ _ _ _ _ _ us hl => match us, hl with | [_, _], _ => rfl, F.kp⟩
theorem sc_law_moment : FnScope ["_law_well_here", "_law_zone", "_law_minute", "_law_way", "_law_day"] ["_law_well_here", "_law_zone", "_law_minute"] (defScope s_law_moment) := ⟨rfl, rfl, rfl, by decide +kernel, rfl, by decide +kernel, by decide +kernel⟩
theorem okA_law_moment (Z : Env K mg) {fd : FuncData} (F : FunD K d_law_moment.name d_law_moment.qual d_law_moment.params d_law_moment.body d_law_moment.scope (d_law_moment.dvs K) (d_law_moment.kws K) (fAd K d_law_moment.at_) fd) : FnOk P w K mg base CX0 3 (ga K "_law_moment") fd ["_law_well_here", "_law_zone", "_law_minute"] (sp_law_moment K) := by
  obtain ⟨fd_law_draw, G_law_draw, b_law_draw, k_law_draw⟩ := ok_law_draw (P := P) (w := w) (base := base) Z
  have g__law_draw := Z.glo 3 (x := "_law_draw") rfl
  refine F.ok sc_law_moment (fun vs H Q E h => len_law_moment h) (fun cdv A outer s H vs Q E hr h => ⟨t_law_moment K, PSs.nox ?_, run_law_moment h⟩)
  exact (pss_cons (ps_set (i := 3) sc_law_moment.nd rfl (Or.inl rfl) (pe_call G_law_draw (hr.mono (by decide)) rfl g__law_draw k_law_draw b_law_draw .nil pass0 (pa_cons (pv 0) (pa_cons pe_int pa_nil))))
    (pss_cons (ps_if (pt_cmpR op_eq (pv 3) pe_int (nomark _)) (pss_one (ps_ret (pe_op op_add (pe_op op_sub (pe_call G_law_draw (hr.mono (by decide)) rfl g__law_draw k_law_draw b_law_draw .nil pass0 (pa_cons (pv 0) (pa_cons (pe_op op_sub (pe_op op_mul pe_int (pe_pow2 (r := 10000000000000) (by decide) ⟨by decide, by decide, by decide⟩)) pe_int) pa_nil))) (pe_pow2 (r := 10000000000000) (by decide) ⟨by decide, by decide, by decide⟩)) pe_int))) pss_nil)
    (pss_cons (ps_set (i := 4) sc_law_moment.nd rfl (Or.inl rfl) (pe_ix ix_seq (pe_lst (pa_cons (pe_op op_sub (pe_call G_law_draw (hr.mono (by decide)) rfl g__law_draw k_law_draw b_law_draw .nil pass0 (pa_cons (pv 0) (pa_cons pe_int pa_nil))) pe_int) (pa_cons (pe_op op_sub (pe_call G_law_draw (hr.mono (by decide)) rfl g__law_draw k_law_draw b_law_draw .nil pass0 (pa_cons (pv 0) (pa_cons (pe_pow2 (r := 1000000000) (by decide) ⟨by decide, by decide, by decide⟩) pa_nil))) (pe_op op_mul pe_int (pe_pow2 (r := 100000000) (by decide) ⟨by decide, by decide, by decide⟩))) pa_nil))) (pe_call G_law_draw (hr.mono (by decide)) rfl g__law_draw k_law_draw b_law_draw .nil pass0 (pa_cons (pv 0) (pa_cons pe_int pa_nil))) (fun _ _ => rfl)))
    (pss_one (ps_ret (pe_op op_sub (pe_op op_add (pe_op op_sub (pe_op op_add (pe_op op_mul (pv 4) pe_int) (pv 2)) (pv 1)) (pe_call G_law_draw (hr.mono (by decide)) rfl g__law_draw k_law_draw b_law_draw .nil pass0 (pa_cons (pv 0) (pa_cons pe_int pa_nil)))) pe_int))))))
theorem ok_law_moment (Z : Env K mg) : ∃ fd, FnOk P w K mg base CX0 3 (ga K "_law_moment") fd ["_law_well_here", "_law_zone", "_law_minute"] (sp_law_moment K) ∧ Binds K fd ["_law_well_here", "_law_zone", "_law_minute"] [] ∧ PySem.W.keepIn K (.ref (ga K "_law_moment")) = true := by
  obtain ⟨fd, F⟩ := Z.c.def_ 3 (d := d_law_moment) rfl
  exact ⟨fd, okA_law_moment Z F, F.bindsN fun _ _ _ _ _ _ us hl => match us, hl with | [_, _, _], _ => rfl, F.kp⟩
theorem sc_law_cell_at : FnScope ["_law_script", "_law_k"] ["_law_script", "_law_k"] (defScope s_law_cell_at) := ⟨rfl, rfl, rfl, by decide +kernel, rfl, by decide +kernel, by decide +kernel⟩
theorem okA_law_cell_at (Z : Env K mg) {fd : FuncData} (F : FunD K d_law_cell_at.name d_law_cell_at.qual d_law_cell_at.params d_law_cell_at.body d_law_cell_at.scope (d_law_cell_at.dvs K) (d_law_cell_at.kws K) (fAd K d_law_cell_at.at_) fd) : FnOk P w K mg base CX0 1 (ga K "_law_cell_at") fd ["_law_script", "_law_k"] (sp_law_cell_at K) := by
  have z_len := Z.free 4 (x := "len") rfl
  refine F.ok sc_law_cell_at (fun vs H Q E h => len_law_cell_at h) (fun cdv A outer s H vs Q E hr h => ⟨t_law_cell_at K, PSs.nox ?_, run_law_cell_at h⟩)
  exact (pss_cons (ps_if (pt_cmpR op_lt (pv 1) (pe_callB call_len (by rfl) z_len (by decide +kernel) (pa_cons (pv 0) pa_nil)) (nomark _)) (pss_one (ps_ret (pe_ix ix_seq (pv 0) (pv 1) (fun _ _ => rfl)))) pss_nil)
    (pss_one (ps_ret pe_int)))
theorem ok_law_cell_at (Z : Env K mg) : ∃ fd, FnOk P w K mg base CX0 1 (ga K "_law_cell_at") fd ["_law_script", "_law_k"] (sp_law_cell_at K) ∧ Binds K fd ["_law_script", "_law_k"] [] ∧ PySem.W.keepIn K (.ref (ga K "_law_cell_at")) = true := by
  obtain ⟨fd, F⟩ := Z.c.def_ 4 (d := d_law_cell_at) rfl
  exact ⟨fd, okA_law_cell_at Z F, F.bindsN fun _ _ _ _ _ _ us hl => match us, hl with | [_, _], _ => rfl, F.kp⟩
theorem sc_is_whole : FnScope ["thing"] ["thing"] (defScope s_is_whole) := ⟨rfl, rfl, rfl, by decide +kernel, rfl, by decide +kernel, by decide +kernel⟩
theorem okA_is_whole (Z : Env K mg) {fd : FuncData} (F : FunD K d_is_whole.name d_is_whole.qual d_is_whole.params d_is_whole.body d_is_whole.scope (d_is_whole.dvs K) (d_is_whole.kws K) (fAd K d_is_whole.at_) fd) : FnOk P w K mg base CX0 1 (ga K "is_whole") fd ["thing"] (sp_is_whole K) := by
  have z_bool := Z.free 5 (x := "bool") rfl
  have z_int := Z.free 1 (x := "int") rfl
  have z_isinstance := Z.free 6 (x := "isinstance") rfl
  refine F.ok sc_is_whole (fun vs H Q E h => len_is_whole h) (fun cdv A outer s H vs Q E hr h => ⟨t_is_whole K, PSs.nox ?_, run_is_whole h⟩)
  exact (pss_one (ps_ret (pe_and (pe_callB call_isi (by rfl) z_isinstance (by decide +kernel) (pa_cons (pv 0) (pa_cons (pe_bltn (v := .ty "int") (by rfl) z_int (by decide +kernel) rfl) pa_nil))) (pe_one (pe_not (pe_callB call_isi (by rfl) z_isinstance (by decide +kernel) (pa_cons (pv 0) (pa_cons (pe_bltn (v := .ty "bool") (by rfl) z_bool (by decide +kernel) rfl) pa_nil))))))))
theorem ok_is_whole (Z : Env K mg) : ∃ fd, FnOk P w K mg base CX0 1 (ga K "is_whole") fd ["thing"] (sp_is_whole K) ∧ Binds K fd ["thing"] [] ∧ PySem.W.keepIn K (.ref (ga K "is_whole")) = true := by
  obtain ⟨fd, F⟩ := Z.c.def_ 5 (d := d_is_whole) rfl
  exact ⟨fd, okA_is_whole Z F, F.bindsN fun _ _ _ _ _ _ us hl => match us, hl with | [_], _ => rfl, F.kp⟩
theorem sc_is_between : FnScope ["thing", "low", "high"] ["thing", "low", "high"] (defScope s_is_between) := ⟨rfl, rfl, rfl, by decide +kernel, rfl, by decide +kernel, by decide +kernel⟩
theorem okA_is_between (Z : Env K mg) {fd : FuncData} (F : FunD K d_is_between.name d_is_between.qual d_is_between.params d_is_between.body d_is_between.scope (d_is_between.dvs K) (d_is_between.kws K) (fAd K d_is_between.at_) fd) : FnOk P w K mg base CX0 2 (ga K "is_between") fd ["thing", "low", "high"] (sp_is_between K) := by
  obtain ⟨fd_is_whole, G_is_whole, b_is_whole, k_is_whole⟩ := ok_is_whole (P := P) (w := w) (base := base) Z
  have g_is_whole := Z.glo 7 (x := "is_whole") rfl
  refine F.ok sc_is_between (fun vs H Q E h => len_is_between h) (fun cdv A outer s H vs Q E hr h => ⟨t_is_between K, PSs.nox ?_, run_is_between h⟩)
  exact (pss_one (ps_ret (pe_and (pe_call G_is_whole (hr.mono (by decide)) rfl g_is_whole k_is_whole b_is_whole .nil pass0 (pa_cons (pv 0) pa_nil)) (pe_one (pe_chain op_le op_le (pv 1) (pv 0) (pv 2))))))
theorem ok_is_between (Z : Env K mg) : ∃ fd, FnOk P w K mg base CX0 2 (ga K "is_between") fd ["thing", "low", "high"] (sp_is_between K) ∧ Binds K fd ["thing", "low", "high"] [] ∧ PySem.W.keepIn K (.ref (ga K "is_between")) = true := by
  obtain ⟨fd, F⟩ := Z.c.def_ 6 (d := d_is_between) rfl
  exact ⟨fd, okA_is_between Z F, F.bindsN fun _ _ _ _ _ _ us hl => match us, hl with | [_, _, _], _ => rfl, F.kp⟩
theorem sc_sure_minute : FnScope ["minute", "many"] ["minute", "many"] (defScope s_sure_minute) := ⟨rfl, rfl, rfl, by decide +kernel, rfl, by decide +kernel, by decide +kernel⟩
theorem okA_sure_minute (Z : Env K mg) {fd : FuncData} (F : FunD K d_sure_minute.name d_sure_minute.qual d_sure_minute.params d_sure_minute.body d_sure_minute.scope (d_sure_minute.dvs K) (d_sure_minute.kws K) (fAd K d_sure_minute.at_) fd) : FnOk P w K mg base CX0 3 (ga K "sure_minute") fd ["minute", "many"] (sp_sure_minute K) := by
  obtain ⟨fd_is_between, G_is_between, b_is_between, k_is_between⟩ := ok_is_between (P := P) (w := w) (base := base) Z
  have g_is_between := Z.glo 8 (x := "is_between") rfl
  refine F.ok sc_sure_minute (fun vs H Q E h => len_sure_minute h) (fun cdv A outer s H vs Q E hr h => ⟨t_sure_minute K, PSs.nox ?_, run_sure_minute h⟩)
  exact (pss_one (ps_if (pt_not (pt_val (pe_call G_is_between (hr.mono (by decide)) rfl g_is_between k_is_between b_is_between .nil pass0 (pa_cons (pv 0) (pa_cons pe_int (pa_cons (pe_op op_sub (pv 1) pe_int) pa_nil)))))) (pss_one ps_never) pss_nil))
theorem ok_sure_minute (Z : Env K mg) : ∃ fd, FnOk P w K mg base CX0 3 (ga K "sure_minute") fd ["minute", "many"] (sp_sure_minute K) ∧ Binds K fd ["minute", "many"] [] ∧ PySem.W.keepIn K (.ref (ga K "sure_minute")) = true := by
  obtain ⟨fd, F⟩ := Z.c.def_ 7 (d := d_sure_minute) rfl
  exact ⟨fd, okA_sure_minute Z F, F.bindsN fun _ _ _ _ _ _ us hl => match us, hl with | [_, _], _ => rfl, F.kp⟩
theorem sc_sure_zone : FnScope ["zone"] ["zone"] (defScope s_sure_zone) := ⟨rfl, rfl, rfl, by decide +kernel, rfl, by decide +kernel, by decide +kernel⟩
theorem okA_sure_zone (Z : Env K mg) {fd : FuncData} (F : FunD K d_sure_zone.name d_sure_zone.qual d_sure_zone.params d_sure_zone.body d_sure_zone.scope (d_sure_zone.dvs K) (d_sure_zone.kws K) (fAd K d_sure_zone.at_) fd) : FnOk P w K mg base CX0 3 (ga K "sure_zone") fd ["zone"] (sp_sure_zone K) := by
  obtain ⟨fd_is_between, G_is_between, b_is_between, k_is_between⟩ := ok_is_between (P := P) (w := w) (base := base) Z
  have g_is_between := Z.glo 8 (x := "is_between") rfl
  have g_DAY := Z.int 9 (x := "DAY") (i := 1440) rfl
  refine F.ok sc_sure_zone (fun vs H Q E h => len_sure_zone h) (fun cdv A outer s H vs Q E hr h => ⟨t_sure_zone K, PSs.nox ?_, run_sure_zone h⟩)
  exact (pss_one (ps_if (pt_not (pt_val (pe_call G_is_between (hr.mono (by decide)) rfl g_is_between k_is_between b_is_between .nil pass0 (pa_cons (pv 0) (pa_cons (pe_op op_sub pe_int (pe_glob rfl (Classical.choose_spec g_DAY) ⟨_, rfl⟩)) (pa_cons (pe_op op_sub (pe_glob rfl (Classical.choose_spec g_DAY) ⟨_, rfl⟩) pe_int) pa_nil)))))) (pss_one ps_never) pss_nil))
theorem ok_sure_zone (Z : Env K mg) : ∃ fd, FnOk P w K mg base CX0 3 (ga K "sure_zone") fd ["zone"] (sp_sure_zone K) ∧ Binds K fd ["zone"] [] ∧ PySem.W.keepIn K (.ref (ga K "sure_zone")) = true := by
  obtain ⟨fd, F⟩ := Z.c.def_ 8 (d := d_sure_zone) rfl
  exact ⟨fd, okA_sure_zone Z F, F.bindsN fun _ _ _ _ _ _ us hl => match us, hl with | [_], _ => rfl, F.kp⟩
theorem sc_shown : FnScope ["moment", "zone"] ["moment", "zone"] (defScope s_shown) := ⟨rfl, rfl, rfl, by decide +kernel, rfl, by decide +kernel, by decide +kernel⟩
theorem okA_shown (Z : Env K mg) {fd : FuncData} (F : FunD K d_shown.name d_shown.qual d_shown.params d_shown.body d_shown.scope (d_shown.dvs K) (d_shown.kws K) (fAd K d_shown.at_) fd) : FnOk P w K mg base CX0 4 (ga K "shown") fd ["moment", "zone"] (sp_shown K) := by
  obtain ⟨fd_sure_zone, G_sure_zone, b_sure_zone, k_sure_zone⟩ := ok_sure_zone (P := P) (w := w) (base := base) Z
  have g_sure_zone := Z.glo 10 (x := "sure_zone") rfl
  have z_divmod := Z.free 11 (x := "divmod") rfl
  have g_DAY := Z.int 9 (x := "DAY") (i := 1440) rfl
  refine F.ok sc_shown (fun vs H Q E h => len_shown h) (fun cdv A outer s H vs Q E hr h => ⟨t_shown K, PSs.nox ?_, run_shown h⟩)
  exact (pss_cons (ps_expr (pe_call G_sure_zone (hr.mono (by decide)) rfl g_sure_zone k_sure_zone b_sure_zone .nil pass0 (pa_cons (pv 1) pa_nil)))
    (pss_one (ps_ret (pe_callB call_divmod (by rfl) z_divmod (by decide +kernel) (pa_cons (pe_op op_add (pv 0) (pv 1)) (pa_cons (pe_glob rfl (Classical.choose_spec g_DAY) ⟨_, rfl⟩) pa_nil))))))
theorem ok_shown (Z : Env K mg) : ∃ fd, FnOk P w K mg base CX0 4 (ga K "shown") fd ["moment", "zone"] (sp_shown K) ∧ Binds K fd ["moment", "zone"] [] ∧ PySem.W.keepIn K (.ref (ga K "shown")) = true := by
  obtain ⟨fd, F⟩ := Z.c.def_ 9 (d := d_shown) rfl
  exact ⟨fd, okA_shown Z F, F.bindsN fun _ _ _ _ _ _ us hl => match us, hl with | [_, _], _ => rfl, F.kp⟩
theorem sc_next_hour : FnScope ["minute", "zone", "moment"] ["minute", "zone", "moment"] (defScope s_next_hour) := ⟨rfl, rfl, rfl, by decide +kernel, rfl, by decide +kernel, by decide +kernel⟩
theorem okA_next_hour (Z : Env K mg) {fd : FuncData} (F : FunD K d_next_hour.name d_next_hour.qual d_next_hour.params d_next_hour.body d_next_hour.scope (d_next_hour.dvs K) (d_next_hour.kws K) (fAd K d_next_hour.at_) fd) : FnOk P w K mg base CX0 5 (ga K "next_hour") fd ["minute", "zone", "moment"] (sp_next_hour K) := by
  obtain ⟨fd_shown, G_shown, b_shown, k_shown⟩ := ok_shown (P := P) (w := w) (base := base) Z
  obtain ⟨fd_sure_minute, G_sure_minute, b_sure_minute, k_sure_minute⟩ := ok_sure_minute (P := P) (w := w) (base := base) Z
  have g_shown := Z.glo 12 (x := "shown") rfl
  have g_sure_minute := Z.glo 13 (x := "sure_minute") rfl
  have g_HOUR := Z.int 14 (x := "HOUR") (i := 60) rfl
  refine F.ok sc_next_hour (fun vs H Q E h => len_next_hour h) (fun cdv A outer s H vs Q E hr h => ⟨t_next_hour K, PSs.nox ?_, run_next_hour h⟩)
  exact (pss_cons (ps_expr (pe_call G_sure_minute (hr.mono (by decide)) rfl g_sure_minute k_sure_minute b_sure_minute .nil pass0 (pa_cons (pv 0) (pa_cons (pe_glob rfl (Classical.choose_spec g_HOUR) ⟨_, rfl⟩) pa_nil))))
    (pss_one (ps_ret (pe_op op_add (pv 2) (pe_op op_mod (pe_op op_sub (pv 0) (pe_ix ix_seq (pe_call G_shown (hr.mono (by decide)) rfl g_shown k_shown b_shown .nil pass0 (pa_cons (pv 2) (pa_cons (pv 1) pa_nil))) pe_int (fun _ _ => rfl))) (pe_glob rfl (Classical.choose_spec g_HOUR) ⟨_, rfl⟩))))))
theorem ok_next_hour (Z : Env K mg) : ∃ fd, FnOk P w K mg base CX0 5 (ga K "next_hour") fd ["minute", "zone", "moment"] (sp_next_hour K) ∧ Binds K fd ["minute", "zone", "moment"] [] ∧ PySem.W.keepIn K (.ref (ga K "next_hour")) = true := by
  obtain ⟨fd, F⟩ := Z.c.def_ 10 (d := d_next_hour) rfl
  exact ⟨fd, okA_next_hour Z F, F.bindsN fun _ _ _ _ _ _ us hl => match us, hl with | [_, _, _], _ => rfl, F.kp⟩
theorem sc_law_whole : FnScope ["_law_found"] ["_law_found"] (defScope s_law_whole) := ⟨rfl, rfl, rfl, by decide +kernel, rfl, by decide +kernel, by decide +kernel⟩
theorem okA_law_whole (Z : Env K mg) {fd : FuncData} (F : FunD K d_law_whole.name d_law_whole.qual d_law_whole.params d_law_whole.body d_law_whole.scope (d_law_whole.dvs K) (d_law_whole.kws K) (fAd K d_law_whole.at_) fd) : FnOk P w K mg base CX0 1 (ga K "_law_whole") fd ["_law_found"] (sp_law_whole K) := by
  have z_bool := Z.free 5 (x := "bool") rfl
  have z_int := Z.free 1 (x := "int") rfl
  have z_isinstance := Z.free 6 (x := "isinstance") rfl
  refine F.ok sc_law_whole (fun vs H Q E h => len_law_whole h) (fun cdv A outer s H vs Q E hr h => ⟨t_law_whole K, PSs.nox ?_, run_law_whole h⟩)
  exact (pss_one (ps_ret (pe_and (pe_callB call_isi (by rfl) z_isinstance (by decide +kernel) (pa_cons (pv 0) (pa_cons (pe_bltn (v := .ty "int") (by rfl) z_int (by decide +kernel) rfl) pa_nil))) (pe_one (pe_not (pe_callB call_isi (by rfl) z_isinstance (by decide +kernel) (pa_cons (pv 0) (pa_cons (pe_bltn (v := .ty "bool") (by rfl) z_bool (by decide +kernel) rfl) pa_nil))))))))
theorem ok_law_whole (Z : Env K mg) : ∃ fd, FnOk P w K mg base CX0 1 (ga K "_law_whole") fd ["_law_found"] (sp_law_whole K) ∧ Binds K fd ["_law_found"] [] ∧ PySem.W.keepIn K (.ref (ga K "_law_whole")) = true := by
  obtain ⟨fd, F⟩ := Z.c.def_ 11 (d := d_law_whole) rfl
  exact ⟨fd, okA_law_whole Z F, F.bindsN fun _ _ _ _ _ _ us hl => match us, hl with | [_], _ => rfl, F.kp⟩
theorem sc_law_hour_right : FnScope ["_law_minute", "_law_zone", "_law_moment_here", "_law_due", "_law_found"] ["_law_minute", "_law_zone", "_law_moment_here"] (defScope s_law_hour_right) := ⟨rfl, rfl, rfl, by decide +kernel, rfl, by decide +kernel, by decide +kernel⟩
theorem okA_law_hour_right (Z : Env K mg) {fd : FuncData} (F : FunD K d_law_hour_right.name d_law_hour_right.qual d_law_hour_right.params d_law_hour_right.body d_law_hour_right.scope (d_law_hour_right.dvs K) (d_law_hour_right.kws K) (fAd K d_law_hour_right.at_) fd) : FnOk P w K mg base CX0 6 (ga K "_law_hour_right") fd ["_law_minute", "_law_zone", "_law_moment_here"] (sp_law_hour_right K) := by
  obtain ⟨fd_law_whole, G_law_whole, b_law_whole, k_law_whole⟩ := ok_law_whole (P := P) (w := w) (base := base) Z
  obtain ⟨fd_next_hour, G_next_hour, b_next_hour, k_next_hour⟩ := ok_next_hour (P := P) (w := w) (base := base) Z
  have g__law_whole := Z.glo 15 (x := "_law_whole") rfl
  have g_next_hour := Z.glo 16 (x := "next_hour") rfl
  refine F.ok sc_law_hour_right (fun vs H Q E h => len_law_hour_right h) (fun cdv A outer s H vs Q E hr h => ⟨t_law_hour_right K, PSs.nox ?_, run_law_hour_right h⟩)
  exact (pss_cons (ps_set (i := 3) sc_law_hour_right.nd rfl (Or.inl rfl) (pv 2))
    (pss_cons (ps_while PassesOwn.never (pt_cmpR op_ne (pe_op op_mod (pe_op op_add (pv 3) (pv 1)) pe_int) (pv 0) (nomark _))
    (pss_one (ps_set (i := 3) sc_law_hour_right.nd rfl (Or.inl rfl) (pe_op op_add (pv 3) pe_int))))
    (pss_cons (ps_set (i := 4) sc_law_hour_right.nd rfl (Or.inl rfl) (pe_call G_next_hour (hr.mono (by decide)) rfl g_next_hour k_next_hour b_next_hour .nil pass0 (pa_cons (pv 0) (pa_cons (pv 1) (pa_cons (pv 2) pa_nil)))))
    (pss_cons (ps_if (PW.pt (pw_or (pt_not (pt_val (pe_call G_law_whole (hr.mono (by decide)) rfl g__law_whole k_law_whole b_law_whole .nil pass0 (pa_cons (pv 4) pa_nil)))) (pw_or1 (pt_cmpR op_ne (pv 4) (pv 3) (nomark _))))) (pss_one (ps_ret pe_bl)) pss_nil)
    (pss_one (ps_ret (pe_and (pe_cmpR op_eq (pe_call G_next_hour (hr.mono (by decide)) rfl g_next_hour k_next_hour b_next_hour .nil pass0 (pa_cons (pv 0) (pa_cons (pv 1) (pa_cons (pv 3) pa_nil)))) (pv 3) (nomark _)) (pe_one (pe_cmpR op_eq (pe_call G_next_hour (hr.mono (by decide)) rfl g_next_hour k_next_hour b_next_hour .nil pass0 (pa_cons (pv 0) (pa_cons (pv 1) (pa_cons (pe_op op_add (pv 3) pe_int) pa_nil)))) (pe_op op_add (pv 3) pe_int) (nomark _))))))))))
theorem ok_law_hour_right (Z : Env K mg) : ∃ fd, FnOk P w K mg base CX0 6 (ga K "_law_hour_right") fd ["_law_minute", "_law_zone", "_law_moment_here"] (sp_law_hour_right K) ∧ Binds K fd ["_law_minute", "_law_zone", "_law_moment_here"] [] ∧ PySem.W.keepIn K (.ref (ga K "_law_hour_right")) = true := by
  obtain ⟨fd, F⟩ := Z.c.def_ 12 (d := d_law_hour_right) rfl
  exact ⟨fd, okA_law_hour_right Z F, F.bindsN fun _ _ _ _ _ _ us hl => match us, hl with | [_, _, _], _ => rfl, F.kp⟩
theorem sc_next_day : FnScope ["minute", "zone", "moment"] ["minute", "zone", "moment"] (defScope s_next_day) := ⟨rfl, rfl, rfl, by decide +kernel, rfl, by decide +kernel, by decide +kernel⟩
theorem okA_next_day (Z : Env K mg) {fd : FuncData} (F : FunD K d_next_day.name d_next_day.qual d_next_day.params d_next_day.body d_next_day.scope (d_next_day.dvs K) (d_next_day.kws K) (fAd K d_next_day.at_) fd) : FnOk P w K mg base CX0 5 (ga K "next_day") fd ["minute", "zone", "moment"] (sp_next_day K) := by
  obtain ⟨fd_shown, G_shown, b_shown, k_shown⟩ := ok_shown (P := P) (w := w) (base := base) Z
  obtain ⟨fd_sure_minute, G_sure_minute, b_sure_minute, k_sure_minute⟩ := ok_sure_minute (P := P) (w := w) (base := base) Z
  have g_shown := Z.glo 12 (x := "shown") rfl
  have g_sure_minute := Z.glo 13 (x := "sure_minute") rfl
  have g_DAY := Z.int 9 (x := "DAY") (i := 1440) rfl
  refine F.ok sc_next_day (fun vs H Q E h => len_next_day h) (fun cdv A outer s H vs Q E hr h => ⟨t_next_day K, PSs.nox ?_, run_next_day h⟩)
  exact (pss_cons (ps_expr (pe_call G_sure_minute (hr.mono (by decide)) rfl g_sure_minute k_sure_minute b_sure_minute .nil pass0 (pa_cons (pv 0) (pa_cons (pe_glob rfl (Classical.choose_spec g_DAY) ⟨_, rfl⟩) pa_nil))))
    (pss_one (ps_ret (pe_op op_add (pv 2) (pe_op op_mod (pe_op op_sub (pv 0) (pe_ix ix_seq (pe_call G_shown (hr.mono (by decide)) rfl g_shown k_shown b_shown .nil pass0 (pa_cons (pv 2) (pa_cons (pv 1) pa_nil))) pe_int (fun _ _ => rfl))) (pe_glob rfl (Classical.choose_spec g_DAY) ⟨_, rfl⟩))))))
theorem ok_next_day (Z : Env K mg) : ∃ fd, FnOk P w K mg base CX0 5 (ga K "next_day") fd ["minute", "zone", "moment"] (sp_next_day K) ∧ Binds K fd ["minute", "zone", "moment"] [] ∧ PySem.W.keepIn K (.ref (ga K "next_day")) = true := by
  obtain ⟨fd, F⟩ := Z.c.def_ 13 (d := d_next_day) rfl
  exact ⟨fd, okA_next_day Z F, F.bindsN fun _ _ _ _ _ _ us hl => match us, hl with | [_, _, _], _ => rfl, F.kp⟩
theorem sc_law_day_right : FnScope ["_law_minute", "_law_zone", "_law_moment_here", "_law_found"] ["_law_minute", "_law_zone", "_law_moment_here"] (defScope s_law_day_right) := ⟨rfl, rfl, rfl, by decide +kernel, rfl, by decide +kernel, by decide +kernel⟩
theorem okA_law_day_right (Z : Env K mg) {fd : FuncData} (F : FunD K d_law_day_right.name d_law_day_right.qual d_law_day_right.params d_law_day_right.body d_law_day_right.scope (d_law_day_right.dvs K) (d_law_day_right.kws K) (fAd K d_law_day_right.at_) fd) : FnOk P w K mg base CX0 6 (ga K "_law_day_right") fd ["_law_minute", "_law_zone", "_law_moment_here"] (sp_law_day_right K) := by
  obtain ⟨fd_law_whole, G_law_whole, b_law_whole, k_law_whole⟩ := ok_law_whole (P := P) (w := w) (base := base) Z
  obtain ⟨fd_next_day, G_next_day, b_next_day, k_next_day⟩ := ok_next_day (P := P) (w := w) (base := base) Z
  have g__law_whole := Z.glo 15 (x := "_law_whole") rfl
  have g_next_day := Z.glo 17 (x := "next_day") rfl
  refine F.ok sc_law_day_right (fun vs H Q E h => len_law_day_right h) (fun cdv A outer s H vs Q E hr h => ⟨t_law_day_right K, PSs.nox ?_, run_law_day_right h⟩)
  exact (pss_cons (ps_set (i := 3) sc_law_day_right.nd rfl (Or.inl rfl) (pe_call G_next_day (hr.mono (by decide)) rfl g_next_day k_next_day b_next_day .nil pass0 (pa_cons (pv 0) (pa_cons (pv 1) (pa_cons (pv 2) pa_nil)))))
    (pss_cons (ps_if (PW.pt (pw_or (pt_not (pt_val (pe_call G_law_whole (hr.mono (by decide)) rfl g__law_whole k_law_whole b_law_whole .nil pass0 (pa_cons (pv 3) pa_nil)))) (pw_or (pt_cmpR op_lt (pv 3) (pv 2) (nomark _)) (pw_or (pt_cmpR op_gt (pe_op op_sub (pv 3) (pv 2)) pe_int (nomark _)) (pw_or1 (pt_cmpR op_ne (pe_op op_mod (pe_op op_add (pv 3) (pv 1)) pe_int) (pv 0) (nomark _))))))) (pss_one (ps_ret pe_bl)) pss_nil)
    (pss_one (ps_ret (pe_and (pe_cmpR op_eq (pe_call G_next_day (hr.mono (by decide)) rfl g_next_day k_next_day b_next_day .nil pass0 (pa_cons (pv 0) (pa_cons (pv 1) (pa_cons (pv 3) pa_nil)))) (pv 3) (nomark _)) (pe_one (pe_cmpR op_eq (pe_call G_next_day (hr.mono (by decide)) rfl g_next_day k_next_day b_next_day .nil pass0 (pa_cons (pv 0) (pa_cons (pv 1) (pa_cons (pe_op op_add (pv 3) pe_int) pa_nil)))) (pe_op op_add (pv 3) pe_int) (nomark _))))))))
theorem ok_law_day_right (Z : Env K mg) : ∃ fd, FnOk P w K mg base CX0 6 (ga K "_law_day_right") fd ["_law_minute", "_law_zone", "_law_moment_here"] (sp_law_day_right K) ∧ Binds K fd ["_law_minute", "_law_zone", "_law_moment_here"] [] ∧ PySem.W.keepIn K (.ref (ga K "_law_day_right")) = true := by
  obtain ⟨fd, F⟩ := Z.c.def_ 14 (d := d_law_day_right) rfl
  exact ⟨fd, okA_law_day_right Z F, F.bindsN fun _ _ _ _ _ _ us hl => match us, hl with | [_, _, _], _ => rfl, F.kp⟩
theorem sc_law : FnScope ["_law_script", "_law_cell", "_law_well_here", "_law_zone", "_law_hour", "_law_day", "_law_moment_here"] ["_law_script"] (defScope s_law) := ⟨rfl, rfl, rfl, by decide +kernel, rfl, by decide +kernel, by decide +kernel⟩
theorem okA_law (Z : Env K mg) {fd : FuncData} (F : FunD K d_law.name d_law.qual d_law.params d_law.body d_law.scope (d_law.dvs K) (d_law.kws K) (fAd K d_law.at_) fd) : FnOk P w K mg base CX0 7 (ga K "law") fd ["_law_script"] (sp_law K) := by
  obtain ⟨fd_law_cell_at, G_law_cell_at, b_law_cell_at, k_law_cell_at⟩ := ok_law_cell_at (P := P) (w := w) (base := base) Z
  obtain ⟨fd_law_day_right, G_law_day_right, b_law_day_right, k_law_day_right⟩ := ok_law_day_right (P := P) (w := w) (base := base) Z
  obtain ⟨fd_law_draw, G_law_draw, b_law_draw, k_law_draw⟩ := ok_law_draw (P := P) (w := w) (base := base) Z
  obtain ⟨fd_law_hour_right, G_law_hour_right, b_law_hour_right, k_law_hour_right⟩ := ok_law_hour_right (P := P) (w := w) (base := base) Z
  obtain ⟨fd_law_moment, G_law_moment, b_law_moment, k_law_moment⟩ := ok_law_moment (P := P) (w := w) (base := base) Z
  obtain ⟨fd_law_well, G_law_well, b_law_well, k_law_well⟩ := ok_law_well (P := P) (w := w) (base := base) Z
  have g__law_cell_at := Z.glo 18 (x := "_law_cell_at") rfl
  have g__law_day_right := Z.glo 19 (x := "_law_day_right") rfl
  have g__law_draw := Z.glo 3 (x := "_law_draw") rfl
  have g__law_hour_right := Z.glo 20 (x := "_law_hour_right") rfl
  have g__law_moment := Z.glo 21 (x := "_law_moment") rfl
  have g__law_well := Z.glo 22 (x := "_law_well") rfl
  refine F.ok sc_law (fun vs H Q E h => len_law h) (fun cdv A outer s H vs Q E hr h => ⟨t_law K, PSs.nox ?_, run_law h⟩)
  exact (pss_cons (ps_for PassesOwn.never rfl (pi_list (pe_op op_cat (pe_lst (pa_cons (pe_call G_law_cell_at (hr.mono (by decide)) rfl g__law_cell_at k_law_cell_at b_law_cell_at .nil pass0 (pa_cons (pv 0) (pa_cons pe_int pa_nil))) pa_nil)) (pe_slice sl_list (pv 0) (po_some pe_int) (po_some pe_int)))) (pg_name (i := 1) sc_law.nd rfl (Or.inl rfl))
    (pss_cons (ps_set (i := 2) sc_law.nd rfl (Or.inl rfl) (pe_call G_law_well (hr.mono (by decide)) rfl g__law_well k_law_well b_law_well .nil pass0 (pa_cons (pv 1) pa_nil)))
    (pss_cons (ps_set (i := 3) sc_law.nd rfl (Or.inl rfl) (pe_ix ix_seq (pe_lst (pa_cons pe_int (pa_cons pe_int (pa_cons (pe_un un_neg pe_int) (pa_cons (pe_op op_sub (pe_call G_law_draw (hr.mono (by decide)) rfl g__law_draw k_law_draw b_law_draw .nil pass0 (pa_cons (pv 2) (pa_cons pe_int pa_nil))) pe_int) pa_nil))))) (pe_call G_law_draw (hr.mono (by decide)) rfl g__law_draw k_law_draw b_law_draw .nil pass0 (pa_cons (pv 2) (pa_cons pe_int pa_nil))) (fun _ _ => rfl)))
    (pss_cons (ps_set (i := 4) sc_law.nd rfl (Or.inl rfl) (pe_ix ix_seq (pe_lst (pa_cons pe_int (pa_cons pe_int (pa_cons (pe_call G_law_draw (hr.mono (by decide)) rfl g__law_draw k_law_draw b_law_draw .nil pass0 (pa_cons (pv 2) (pa_cons pe_int pa_nil))) (pa_cons (pe_call G_law_draw (hr.mono (by decide)) rfl g__law_draw k_law_draw b_law_draw .nil pass0 (pa_cons (pv 2) (pa_cons pe_int pa_nil))) pa_nil))))) (pe_call G_law_draw (hr.mono (by decide)) rfl g__law_draw k_law_draw b_law_draw .nil pass0 (pa_cons (pv 2) (pa_cons pe_int pa_nil))) (fun _ _ => rfl)))
    (pss_cons (ps_set (i := 5) sc_law.nd rfl (Or.inl rfl) (pe_ix ix_seq (pe_lst (pa_cons pe_int (pa_cons pe_int (pa_cons (pe_call G_law_draw (hr.mono (by decide)) rfl g__law_draw k_law_draw b_law_draw .nil pass0 (pa_cons (pv 2) (pa_cons pe_int pa_nil))) (pa_cons (pv 4) pa_nil))))) (pe_call G_law_draw (hr.mono (by decide)) rfl g__law_draw k_law_draw b_law_draw .nil pass0 (pa_cons (pv 2) (pa_cons pe_int pa_nil))) (fun _ _ => rfl)))
    (pss_cons (ps_set (i := 6) sc_law.nd rfl (Or.inl rfl) (pe_call G_law_moment (hr.mono (by decide)) rfl g__law_moment k_law_moment b_law_moment .nil pass0 (pa_cons (pv 2) (pa_cons (pv 3) (pa_cons (pv 5) pa_nil)))))
    (pss_cons (ps_if (PW.pt (pw_or (pt_not (pt_val (pe_call G_law_hour_right (hr.mono (by decide)) rfl g__law_hour_right k_law_hour_right b_law_hour_right .nil pass0 (pa_cons (pv 4) (pa_cons (pv 3) (pa_cons (pv 6) pa_nil)))))) (pw_or1 (pt_not (pt_val (pe_call G_law_day_right (hr.mono (by decide)) rfl g__law_day_right k_law_day_right b_law_day_right .nil pass0 (pa_cons (pv 5) (pa_cons (pv 3) (pa_cons (pv 6) pa_nil))))))))) (pss_one (ps_ret pe_bl)) pss_nil)
    (pss_one (ps_if (pt_not (pt_val (pe_call G_law_hour_right (hr.mono (by decide)) rfl g__law_hour_right k_law_hour_right b_law_hour_right .nil pass0 (pa_cons (pe_op op_mod (pv 5) pe_int) (pa_cons (pv 3) (pa_cons (pv 6) pa_nil)))))) (pss_one (ps_ret pe_bl)) pss_nil)))))))))
    (pss_one (ps_ret pe_bl)))
theorem ok_law (Z : Env K mg) : ∃ fd, FnOk P w K mg base CX0 7 (ga K "law") fd ["_law_script"] (sp_law K) ∧ Binds K fd ["_law_script"] [] ∧ PySem.W.keepIn K (.ref (ga K "law")) = true := by
  obtain ⟨fd, F⟩ := Z.c.def_ 15 (d := d_law) rfl
  exact ⟨fd, okA_law Z F, F.bindsN fun _ _ _ _ _ _ us hl => match us, hl with | [_], _ => rfl, F.kp⟩
end
/-! ### the head -/
abbrev R : PySem.W.OpenRow := PySem.W.OpenLaw.row PySem.Challenge.rw_bellsaway_k04_next_minutes
abbrev hk : PySem.W.Hook := He.hookD 5 fa fn
def ob (s : PySem.W.SharedT) : He.AlD := He.obsDG 5 fa fn (HandSHeadRun.getT s)
theorem ob_eq (s : PySem.W.SharedT) : ob s = hk.obs s.abs := He.obsDG_eq (HandSHeadRun.getT_eq s)
theorem run (w : World) : HandSHeadRun.RunEq R (PySem.W.view R.prog [23]) hk ob 4000 ["BellError", "NoClock", "is_whole", "is_between", "DAY", "HOUR", "sure_zone", "sure_minute", "shown", "next_hour", "next_day", "_law_cell_at", "_law_mixed", "_law_well", "_law_draw", "_law_whole", "_law_moment", "_law_hour_right", "_law_day_right"] w := by
  intro os
  kernel_rfl
theorem facts {P : Program} {w : World} {K : PySem.W.Frag} {h : Heap} {mg : Str → Option Value} {f : Addr} (X : K.In h) (G : h.Ns mainGlobals mg) (hfa : mg ("law" : Str) = some (.ref f)) (c : He.SaysD fa fn K) :
    ∃ fd : FuncData, (∀ (s : Shared) (v : Value), BindsTo s fd ⟨[v], []⟩ [("_law_script", v)]) ∧ ∀ base : Heap, K.In base → base.Ns mainGlobals mg → FnOk P w K mg base CX0 7 f fd ["_law_script"] (sp_law K) := by
  have Z : Env K mg := ⟨c, h, X, G⟩
  obtain ⟨fd, F⟩ := c.def_ 15 (d := d_law) rfl
  have e := hfa.symm.trans (Z.glo 23 rfl)
  cases e
  have b := FunD.bindsA (ps := ["_law_script"]) F fun _ _ _ _ _ _ us hl => match us, hl with | [_], _ => rfl
  exact ⟨fd, fun s v => b s [v] rfl, fun base _ _ => okA_law Z F⟩
end Pr
open PySem PySem.W PySem.Calls PyProof.Rows
set_option maxRecDepth 100000 in
set_option maxHeartbeats 0 in
theorem PySem.Challenge.cw_bellsaway_k04_next_minutes_holds : PySem.Challenge.rw_bellsaway_k04_next_minutes.Holds := by
  w_on; o_law
  refine HandSHeadRun.head_any (r := OpenLaw.row PySem.Challenge.rw_bellsaway_k04_next_minutes) (q := view (OpenLaw.row PySem.Challenge.rw_bellsaway_k04_next_minutes).prog [23]) (H := Pr.hk) (ob := Pr.ob) (M := 4000) (loose := ["BellError", "NoClock", "is_whole", "is_between", "DAY", "HOUR", "sure_zone", "sure_minute", "shown", "next_hour", "next_day", "_law_cell_at", "_law_mixed", "_law_well", "_law_draw", "_law_whole", "_law_moment", "_law_hour_right", "_law_day_right"]) (d := HandSHeadRun.topDef (OpenLaw.row PySem.Challenge.rw_bellsaway_k04_next_minutes).prog 23) (kwd := []) Pr.ob_eq
    (by kernel_rfl) (fun s => by kernel_rfl) Pr.run (by kernel_rfl) (by kernel_rfl) (by kernel_rfl) (by rfl) (by first | assumption | decide +kernel) (by decide +kernel) ⟨rfl, rfl, rfl, rfl, rfl, by decide +kernel⟩ ?hw ?hc
  case hw => w_witness2
  case hc =>
    refine L2.walk_ofE (l := PySem.Challenge.rw_bellsaway_k04_next_minutes) (n := 63) (k := 7) (x := "_law_script") (CX := L2.CX0) rfl (by decide) (by kernel_rfl) ⟨rfl, by decide, by decide⟩ ?F (fun _ _ _ _ z => z)
    intro w mg fa h Y G hmg0
    obtain ⟨K, KX, c⟩ := Y
    have hmg : mg ("law" : PySem.Str) = some (.ref fa) := by
      have e : (HandSHeadRun.topDef (OpenLaw.row PySem.Challenge.rw_bellsaway_k04_next_minutes).prog 23).name = ("law" : PySem.Str) := by kernel_rfl
      rw [← e]
      exact hmg0
    obtain ⟨fd, hb, hF⟩ := Pr.facts (P := (PySem.Challenge.rw_bellsaway_k04_next_minutes).prog) (w := w) KX G hmg c
    exact ⟨K, fd, Pr.sp_law K, KX, hb, fun H a ns hl _ hS => ⟨a, ns, rfl, hS, hl, fun _ => rfl⟩, hF⟩

