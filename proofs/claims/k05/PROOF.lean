import PyProof.Rows.All
import Wide.All
import OpenK.AllK
import Wide.FinOn
import KE.KStateDown
import HandS.Base
import HandS.Call
import HandS.List
import HandS.Comp
import HandS.Ends
import HandS.Dict
import HandS.Iter
import HandS.Text
import HandS.More
import HandS.Words
import HandS.WordsList
import HandS.WordsDict
import HandS.Exc
import HandS.ExcOwn
import HandS.TryOnly
import HandS.WordsExc
import HandS.Defaults
import HandS.Flow
import HandS.IsInst
import HandS.Style
import HandS.ExcIs
import HandS.ExcField
import HandS.Evl
import HandS.Wide
import HandS.Head0
import HandS.Head1
import HandS.Head2
import HandS.HeadEnd
import HandS.HeadHook1
import HandS.HeadHook2
import PySem.Challenge.RW_bellsaway_k05_what_is_no_clock
set_option Elab.async false
set_option linter.all false
set_option maxRecDepth 100000
set_option maxHeartbeats 4000000
/-! ## own stepping layer: one lemma a reading -/
namespace Vs
open PySem PySem.Spec PyProof.Rows L2

/-! ### frames of heaps -/
/-- all but l stands -/
def Kp (l : Addr) (H H' : Hp) : Prop := ∀ b o, H b = some o → b ≠ l → H' b = some o
theorem Kp.refl (l : Addr) (H : Hp) : Kp l H H := fun _ _ h _ => h
theorem Kp.trans {l : Addr} {H H1 H2 : Hp} (a : Kp l H H1) (b : Kp l H1 H2) : Kp l H H2 := fun x o h n => b x o (a x o h n) n
theorem Kp.upd {l : Addr} {H H1 : Hp} {o : HO} (a : Kp l H H1) : Kp l H (upd H1 l o) := fun x u h n => by rw [upd_ne n]; exact a x u h n
theorem Kp.new {l p : Addr} {H H1 : Hp} {o : HO} (a : Kp l H H1) (hp : H1 p = none) : Kp l H (L2.upd H1 p o) := fun x u h n => by
  have h1 := a x u h n
  rw [upd_ne (ne_of_none h1 hp)]; exact h1
theorem Same.new {p : Addr} {H H1 : Hp} {o : HO} (a : Same H H1) (hp : H1 p = none) : Same H (L2.upd H1 p o) := fun x u h => by
  have h1 := a x u h
  rw [upd_ne (ne_of_none h1 hp)]; exact h1
theorem Same.kp {l : Addr} {H H1 : Hp} (a : Same H H1) : Kp l H H1 := fun x u h _ => a x u h
theorem Kp.same {l : Addr} {H H1 H2 : Hp} (a : Kp l H H1) (b : Same H1 H2) : Kp l H H2 := fun x o h n => b x o (a x o h n)
theorem Same.kpt {l : Addr} {H H1 H2 : Hp} (a : Same H H1) (b : Kp l H1 H2) : Kp l H H2 := fun x o h n => b x o (a x o h) n
theorem Kp.at {l b : Addr} {H H' : Hp} {o : HO} (k : Kp l H H') (h : H b = some o) (n : b ≠ l) : H' b = some o := k b o h n
theorem free_back {H H' : Hp} {l p : Addr} {o : HO} (k : Kp l H H') (h : H' p = none) (hl : H' l = some o) : H p = none := by
  cases e : H p with
  | none => rfl
  | some u =>
    by_cases n : p = l
    · rw [n, hl] at h; cases h
    · rw [k p u e n] at h; cases h

theorem upd_old {H : Hp} {b p : Addr} {o u : HO} (hp : H p = none) (h : H b = some o) : L2.upd H p u b = some o := by rw [upd_ne (ne_of_none h hp)]; exact h
theorem Kp.seq {K : PySem.W.Frag} {l a : Addr} {H H' : Hp} {xs : List V} (k : Kp l H H') (n : a ≠ l) (h : SqL K H a xs) : SqL K H' a xs := by
  rcases h with (h | ⟨o, h⟩) | h
  · exact .inl (.inl (k _ _ h n))
  · exact .inl (.inr ⟨o, k _ _ h n⟩)
  · exact .inr h
theorem Kp.seqn {K : PySem.W.Frag} {l a : Addr} {H H' : Hp} {xs : List V} (k : Kp l H H') (hl : H l = none) (h : SqL K H a xs) : SqL K H' a xs := by
  rcases h with (h | ⟨o, h⟩) | h
  · exact .inl (.inl (k _ _ h (ne_of_none h hl)))
  · exact .inl (.inr ⟨o, k _ _ h (ne_of_none h hl)⟩)
  · exact .inr h
theorem Same.ofKp {l : Addr} {H H1 H2 : Hp} {o : HO} (s : Same H H1) (hl : H1 l = none) (k : Kp l (L2.upd H1 l o) H2) : Same H H2 := fun b u h => by
  have h1 := s b u h
  have n := ne_of_none h1 hl
  exact k b u (by rw [upd_ne n]; exact h1) n
/-! ### the law's list of cells -/
theorem cutV_len (xs : List V) (lo hi : Option Int) : (cutV xs lo hi).length ≤ xs.length := by
  unfold cutV
  rw [List.length_take, List.length_drop]
  omega
theorem cutV_mem {xs : List V} {lo hi : Option Int} {x : V} (h : x ∈ cutV xs lo hi) : x ∈ xs := List.mem_of_mem_drop (List.mem_of_mem_take h)
theorem cells_int {ns : List Int} {c : Int} {lo hi : Option Int} {x : V} (h : x ∈ [V.int c] ++ cutV (ns.map V.int) lo hi) : ∃ z, x = .int z := by
  rcases List.mem_append.mp h with h | h
  · exact ⟨c, by simpa using h⟩
  · obtain ⟨z, _, e⟩ := List.mem_map.mp (cutV_mem h)
    exact ⟨z, e.symm⟩
theorem cells_len {ns : List Int} {c : Int} {lo hi : Option Int} (h : ns.length ≤ 63) : [V.int c].length + (cutV (ns.map V.int) lo hi).length ≤ sizeLine := by
  have h1 := cutV_len (ns.map V.int) lo hi
  rw [List.length_map] at h1
  have h2 : (64 : Nat) ≤ sizeLine := by rw [sizeLine_eq]; decide
  simp only [List.length_cons, List.length_nil]
  omega
/-! ### readings, one step each -/
section
variable {K : PySem.W.Frag} {σ : L2.St} {H : Hp} {Q : VK} {ta tb te tc : TE} {x y v : V} {r r' : R2} {T U : TT} {B : Bool → Hp → Prop} {D : Ends} {i j : Int}
theorem r_var {n : Nat} (h : σ[n]? = some (some v)) (q : Q v H) : tVar n σ H Q := ⟨v, h, q⟩
theorem r_c (q : Q v H) : tC v σ H Q := q
theorem r_op (q : ta σ H fun x H1 => tb σ H1 fun y H2 => r x y H2 Q) : tOp r ta tb σ H Q := q
theorem r_un {r : V → Hp → VK → Prop} (q : ta σ H fun x H1 => r x H1 Q) : tUn r ta σ H Q := q
theorem r_I0 {g : Int → Int → V} (q : Q (g i j) H) : rI0 g (.int i) (.int j) H Q := ⟨i, j, rfl, rfl, q⟩
theorem r_I {C : Int → Int → Prop} {g : Int → Int → V} (c : C i j) (q : Q (g i j) H) : rI C g (.int i) (.int j) H Q := ⟨i, j, rfl, rfl, c, q⟩
theorem r_U {g : Int → V} (q : Q (g i) H) : rU g (.int i) H Q := ⟨i, rfl, q⟩
theorem r_eqI (q : Q (.bl (decide (i = j))) H) : rEq (.int i) (.int j) H Q := ⟨rfl, by
  have e : decide (V.int i = V.int j) = decide (i = j) := by simp
  rw [e]; exact q⟩
theorem r_neI (q : Q (.bl (!decide (i = j))) H) : rNe (.int i) (.int j) H Q := ⟨rfl, by
  have e : decide (V.int i = V.int j) = decide (i = j) := by simp
  rw [e]; exact q⟩
theorem r_eqB {a b : Bool} (q : Q (.bl (decide (a = b))) H) : rEq (.bl a) (.bl b) H Q := ⟨rfl, by
  have e : decide (V.bl a = V.bl b) = decide (a = b) := by simp
  rw [e]; exact q⟩
theorem r_neB {a b : Bool} (q : Q (.bl (!decide (a = b))) H) : rNe (.bl a) (.bl b) H Q := ⟨rfl, by
  have e : decide (V.bl a = V.bl b) = decide (a = b) := by simp
  rw [e]; exact q⟩
theorem r_eqS {a b : Str} (q : Q (.bl (decide (a = b))) H) : rEq (.str a) (.str b) H Q := ⟨rfl, by
  have e : decide (V.str a = V.str b) = decide (a = b) := by simp
  rw [e]; exact q⟩
theorem r_neS {a b : Str} (q : Q (.bl (!decide (a = b))) H) : rNe (.str a) (.str b) H Q := ⟨rfl, by
  have e : decide (V.str a = V.str b) = decide (a = b) := by simp
  rw [e]; exact q⟩
theorem r_test (q : te σ H fun x H1 => ∃ k, x = .bl k ∧ B k H1) : tTest te σ H B := q
theorem r_tB (q : te σ H fun x H1 => ∃ k, x = .bl k ∧ B k H1) : tB te σ H B := q
theorem r_isbl {k : Bool} {P : Bool → Prop} (q : P k) : ∃ c, V.bl k = .bl c ∧ P c := ⟨k, rfl, q⟩
theorem r_and (q : T σ H fun c H1 => if c = true then U σ H1 B else B false H1) : tAnd T U σ H B := q
theorem r_or (q : T σ H fun c H1 => if c = true then B true H1 else U σ H1 B) : tOr T U σ H B := q
theorem r_not (q : T σ H fun c H1 => B (!c) H1) : tNot T σ H B := q
theorem r_andV (q : ta σ H fun x H1 => ∃ c, x = .bl c ∧ if c = true then tb σ H1 Q else Q (.bl false) H1) : tAndV ta tb σ H Q := q
theorem r_orV (q : ta σ H fun x H1 => ∃ c, x = .bl c ∧ if c = true then Q (.bl true) H1 else tb σ H1 Q) : tOrV ta tb σ H Q := q
theorem r_notV (q : ta σ H fun x H1 => ∃ c, x = .bl c ∧ Q (.bl (!c)) H1) : tNotV ta σ H Q := q
theorem r_if (q : T σ H fun c H1 => if c = true then ta σ H1 Q else tb σ H1 Q) : tIf T ta tb σ H Q := q
theorem r_chain (q : ta σ H fun x H1 => tb σ H1 fun y H2 => r x y H2 fun z H3 => ∃ k, z = .bl k ∧ (if k = true then tc σ H3 fun w' H4 => r' y w' H4 Q else Q (.bl false) H3)) : tChain r r' ta tb tc σ H Q := q
theorem r_nil {A : List V → Hp → Prop} (q : A [] H) : tNil σ H A := q
theorem r_cons {tr : TA} {A : List V → Hp → Prop} (q : ta σ H fun x H1 => tr σ H1 fun xs H2 => A (x :: xs) H2) : tCons ta tr σ H A := q
theorem r_tup {t : TA} (q : t σ H fun xs H1 => xs.length ≤ sizeLine ∧ ∀ p, H1 p = none → Q (.ref p) (upd H1 p (.tup xs))) : tTup t σ H Q := q
theorem r_lst {t : TA} (q : t σ H fun xs H1 => xs.length ≤ sizeLine ∧ ∀ p, H1 p = none → Q (.ref p) (upd H1 p (.lst xs))) : tLst t σ H Q := q
theorem r_size {xs : List V} {P : Prop} (h : xs.length ≤ 1000) (q : P) : xs.length ≤ sizeLine ∧ P := ⟨Nat.le_trans h (by rw [sizeLine_eq]; decide), q⟩
theorem r_call {sp : Sp} {dvs : List V} {E : XK} {t : TA} (q : t σ H fun vs H1 => sp (vs ++ dvs) H1 Q E) : tCall sp dvs E t σ H Q := q
theorem r_call0 {sp : Sp} {E : XK} {t : TA} (q : t σ H fun vs H1 => sp vs H1 Q E) : tCall sp [] E t σ H Q := by
  show t σ H fun vs H1 => sp (vs ++ []) H1 Q E
  have e : (fun vs H1 => sp (vs ++ []) H1 Q E) = fun vs H1 => sp vs H1 Q E := by funext vs H1; rw [List.append_nil]
  rw [e]; exact q
theorem r_cb {r : List V → Hp → VK → Prop} {t : TA} (q : t σ H fun vs H1 => r vs H1 Q) : tCB r t σ H Q := q
theorem r_bm {T : String} {r : V → List V → Hp → VK → Prop} {t : TA} (q : ta σ H fun x H1 => tyV K T x H1 ∧ t σ H1 fun xs H2 => r x xs H2 Q) : tBM K T r ta t σ H Q := q
theorem r_bm0 {T : String} {r : V → List V → Hp → VK → Prop} (q : ta σ H fun x H1 => tyV K T x H1 ∧ r x [] H1 Q) : tBM0 K T r ta σ H Q := q
theorem r_seq {t u : TS} {nx bk ct : L2.St → Hp → Prop} {rt : VK} (q : t (Ends.mk (u (Ends.mk nx rt bk ct)) rt bk ct) σ H) : tSeq t u (Ends.mk nx rt bk ct) σ H := q
theorem r_brk {nx bk ct : L2.St → Hp → Prop} {rt : VK} (q : bk σ H) : tBreak (Ends.mk nx rt bk ct) σ H := q
theorem r_cont {nx bk ct : L2.St → Hp → Prop} {rt : VK} (q : ct σ H) : tCont (Ends.mk nx rt bk ct) σ H := q
theorem r_next {nx bk ct : L2.St → Hp → Prop} {rt : VK} (q : nx σ H) : tNext (Ends.mk nx rt bk ct) σ H := q
theorem r_drop {nx bk ct : L2.St → Hp → Prop} {rt : VK} (q : te σ H fun _ H1 => nx σ H1) : tDrop te (Ends.mk nx rt bk ct) σ H := q
theorem r_ret {nx bk ct : L2.St → Hp → Prop} {rt : VK} (q : te σ H rt) : tRet te (Ends.mk nx rt bk ct) σ H := q
theorem r_retN {nx bk ct : L2.St → Hp → Prop} {rt : VK} (q : rt .non H) : tRetN (Ends.mk nx rt bk ct) σ H := q
theorem r_ifS {t u : TS} (q : T σ H fun b H1 => if b = true then t D σ H1 else u D σ H1) : tIfS T t u D σ H := q
theorem r_asg {g : TG} {nx bk ct : L2.St → Hp → Prop} {rt : VK} (q : te σ H fun x H1 => g x σ H1 nx) : tAsg te g (Ends.mk nx rt bk ct) σ H := q
theorem r_gName {n : Nat} {P : L2.St → Hp → Prop} (q : P (σ.set n (some v)) H) : gName n v σ H P := q
theorem r_gSub {to ti : TE} {t : TSet} {P : L2.St → Hp → Prop} (q : to σ H fun o H1 => ti σ H1 fun i H2 => t o i v H2 fun H3 => P σ H3) : gSub to ti t v σ H P := q
theorem r_sl {r : V → Option Int → Option Int → Hp → VK → Prop} {tl th : TO} (q : te σ H fun x H1 => tl σ H1 fun l H2 => th σ H2 fun u H3 => r x l u H3 Q) : tSl r te tl th σ H Q := q
theorem r_noPart {P : Option Int → Hp → Prop} (q : P none H) : tNoPart σ H P := q
theorem r_part {P : Option Int → Hp → Prop} (q : te σ H fun x H1 => ∃ i, x = .int i ∧ P (some i) H1) : tPart te σ H P := q
theorem r_isint {P : Int → Prop} (q : P i) : ∃ k, V.int i = .int k ∧ P k := ⟨i, rfl, q⟩
theorem r_gTup {n : Nat} {t : TGs} {a : Addr} {xs : List V} {P : L2.St → Hp → Prop} (h : SqT K H a xs) (e : xs.length = n) (q : t xs σ H P) : gTup K n t (.ref a) σ H P := ⟨a, xs, rfl, h, e, q⟩
theorem r_gCons {t : TG} {u : TGs} {vs : List V} {P : L2.St → Hp → Prop} (q : t v σ H fun σ' H' => u vs σ' H' P) : gCons t u (v :: vs) σ H P := ⟨v, vs, rfl, q⟩
theorem r_gNil {P : L2.St → Hp → Prop} (q : P σ H) : gNil [] σ H P := ⟨rfl, q⟩
theorem ite_t {A B : Prop} (h : A) : if true = true then A else B := by rw [if_pos rfl]; exact h
theorem ite_f {A B : Prop} (h : B) : if false = true then A else B := by rw [if_neg Bool.false_ne_true]; exact h
theorem ite_nt {A B : Prop} (h : B) : if (!true) = true then A else B := ite_f h
theorem ite_nf {A B : Prop} (h : A) : if (!false) = true then A else B := ite_t h
theorem ite_y {p : Prop} {i : Decidable p} {A B : Prop} (hp : p) (h : A) : if decide p = true then A else B := by rw [decide_eq_true hp]; exact ite_t h
theorem ite_n {p : Prop} {i : Decidable p} {A B : Prop} (hp : ¬ p) (h : B) : if decide p = true then A else B := by rw [decide_eq_false hp]; exact ite_f h
theorem ite_ny {p : Prop} {i : Decidable p} {A B : Prop} (hp : p) (h : B) : if (!decide p) = true then A else B := by rw [decide_eq_true hp]; exact ite_f h
theorem ite_nn {p : Prop} {i : Decidable p} {A B : Prop} (hp : ¬ p) (h : A) : if (!decide p) = true then A else B := by rw [decide_eq_false hp]; exact ite_t h
theorem ite_d {p : Prop} {i : Decidable p} {A B : Prop} (h1 : p → A) (h2 : ¬ p → B) : if decide p = true then A else B := by
  by_cases h : p
  · exact ite_y h (h1 h)
  · exact ite_n h (h2 h)
theorem ite_nd {p : Prop} {i : Decidable p} {A B : Prop} (h1 : ¬ p → A) (h2 : p → B) : if (!decide p) = true then A else B := by
  by_cases h : p
  · exact ite_ny h (h2 h)
  · exact ite_nn h (h1 h)
theorem upd2 {H : Hp} {a : Addr} {o u : HO} : upd (upd H a o) a u = upd H a u := upd_upd
theorem upd_id {H : Hp} {a : Addr} {o : HO} (h : H a = some o) : upd H a o = H := by
  funext b
  by_cases hb : b = a
  · rw [hb, upd_same, h]
  · rw [upd_ne hb]
theorem q_t {Q : VK} {H : Hp} {p : Prop} {i : Decidable p} (hp : p) (q : Q (.bl true) H) : Q (.bl (@decide p i)) H := by rw [decide_eq_true hp]; exact q
theorem ite_d' {p : Prop} {i : Decidable p} {A B : Prop} (h1 : p → B) (h2 : ¬ p → A) : if (!decide p) = true then A else B := ite_nd h2 h1
theorem ite_bt {b : Bool} {A B : Prop} (h : b = true) (q : A) : if b = true then A else B := by rw [h]; exact ite_t q
theorem ite_bf {b : Bool} {A B : Prop} (h : b = false) (q : B) : if b = true then A else B := by rw [h]; exact ite_f q
theorem q_bl {Q : VK} {H : Hp} {b c : Bool} (h : b = c) (q : Q (.bl b) H) : Q (.bl c) H := h ▸ q
theorem ite_b {b : Bool} {A B : Prop} (h1 : b = true → A) (h2 : b = false → B) : if b = true then A else B := by
  cases b
  · exact ite_f (h2 rfl)
  · exact ite_t (h1 rfl)
/-! items -/
theorem r_ixL {p : Addr} {xs : List V} (h : SqL K H p xs) (ha : atI xs i = some v) (q : Q v H) : rIx K (.ref p) (.int i) H Q := .inl ⟨p, xs, i, v, rfl, rfl, h, ha, q⟩
theorem r_ixT {p : Addr} {xs : List V} (h : SqT K H p xs) (ha : atI xs i = some v) (q : Q v H) : rIx K (.ref p) (.int i) H Q := .inr (.inl ⟨p, xs, i, v, rfl, rfl, h, ha, q⟩)
theorem r_ixS {z : Str} {c : Nat} (h : z.length ≤ sizeLine) (ha : atI z.cps.toList i = some c) (q : Q (.str ⟨#[c]⟩) H) : rIx K (.str z) (.int i) H Q := .inr (.inr ⟨z, i, c, rfl, rfl, h, ha, q⟩)
theorem r_setL {p : Addr} {xs : List V} {n : Nat} {P : Hp → Prop} (h : H p = some (.lst xs)) (e : ixN xs.length i = some n) (q : P (upd H p (.lst (xs.set n v)))) : rSetL (.ref p) (.int i) v H P := ⟨p, xs, i, n, rfl, rfl, h, e, q⟩
theorem r_slL {p : Addr} {xs : List V} {lo hi : Option Int} (h : SqL K H p xs) (q : ∀ a, H a = none → Q (.ref a) (upd H a (.lst (cutV xs lo hi)))) : rSlL K (.ref p) lo hi H Q := ⟨p, xs, rfl, h, q⟩
theorem r_cat {p b : Addr} {xs ys : List V} (h : H p = some (.lst xs)) (h2 : H b = some (.lst ys)) (hl : xs.length + ys.length ≤ sizeLine) (q : ∀ a, H a = none → Q (.ref a) (upd H a (.lst (xs ++ ys)))) : rCat (.ref p) (.ref b) H Q := ⟨p, b, xs, ys, rfl, rfl, h, h2, hl, q⟩
theorem r_app {p : Addr} {xs : List V} (h : H p = some (.lst xs)) (hl : xs.length < sizeLine) (q : Q .non (upd H p (.lst (xs ++ [v])))) : rAppend (.ref p) [v] H Q := ⟨p, xs, v, rfl, rfl, h, hl, q⟩
theorem r_tyl {p : Addr} {xs : List V} {P : Prop} (h : H p = some (.lst xs)) (q : P) : tyV K "list" (.ref p) H ∧ P := ⟨Or.inl ⟨rfl, _, Or.inl (Or.inl h)⟩, q⟩
theorem r_isB {a b : Bool} (q : Q (.bl (decide (a = b))) H) : rIsB (.bl a) (.bl b) H Q := ⟨a, b, rfl, rfl, q⟩
theorem r_notB {a b : Bool} (q : Q (.bl (!decide (a = b))) H) : rNotB (.bl a) (.bl b) H Q := ⟨a, b, rfl, rfl, q⟩
theorem r_rep {p : Addr} {xs : List V} (h : H p = some (.lst xs)) (h0 : 0 ≤ i) (h1 : i ≤ 100000) (hl : xs.length * i.toNat ≤ sizeLine) (q : ∀ a, H a = none → Q (.ref a) (upd H a (.lst ((List.replicate i.toNat xs).flatten)))) : rRep (.ref p) (.int i) H Q := ⟨p, i, xs, rfl, rfl, h, by omega, by omega, hl, q⟩
/-! data compared -/
theorem r_eqDe {d e : PyData} (hx : Dp K H x d) (hy : Dp K H y e) (sd : SeqAt.shaped d = true) (h : d = e) (q : Q (.bl true) H) : rEqD K x y H Q := ⟨d, e, hx, hy, sd, h ▸ sd, by rw [← h, SeqAt.eqv_refl _ (SeqAt.canLay_of_shaped sd)]; exact q⟩
theorem r_neDe {d e : PyData} (hx : Dp K H x d) (hy : Dp K H y e) (sd : SeqAt.shaped d = true) (h : d = e) (q : Q (.bl false) H) : rNeD K x y H Q := ⟨d, e, hx, hy, sd, h ▸ sd, by rw [← h, SeqAt.eqv_refl _ (SeqAt.canLay_of_shaped sd)]; exact q⟩
/-! built-ins by name -/
def rInt1 : List V → Hp → VK → Prop := fun xs H Q => (∃ i, xs = [.int i] ∧ Q (.int i) H) ∨ ∃ k : Bool, xs = [.bl k] ∧ Q (.int (if k then 1 else 0)) H
def rDivmod : List V → Hp → VK → Prop := fun xs H Q => ∃ i j, xs = [.int i, .int j] ∧ CDiv i j ∧ ∀ p, H p = none → Q (.ref p) (upd H p (.tup [.int (i / j), .int (i % j)]))
def rMin2 : List V → Hp → VK → Prop := fun xs H Q => ∃ i j : Int, xs = [.int i, .int j] ∧ Q (.int (if j < i then j else i)) H
def rMax2 : List V → Hp → VK → Prop := fun xs H Q => ∃ i j : Int, xs = [.int i, .int j] ∧ Q (.int (if j > i then j else i)) H
def rAddS : R2 := fun x y H Q => ∃ i j, x = .str i ∧ y = .str j ∧ i.length + j.length ≤ sizeLine ∧ Q (.str (i ++ j)) H
def rIsN : R2 := fun x y H Q => y = .non ∧ Q (.bl (decide (x = .non))) H
def rNotN : R2 := fun x y H Q => y = .non ∧ Q (.bl (!decide (x = .non))) H
def tTru (K : PySem.W.Frag) (ta : TE) : TT := fun σ H Q => ta σ H fun x H' => ∃ k, TruV K x H' k ∧ Q k H'
theorem r_min2 (q : Q (.int (if j < i then j else i)) H) : rMin2 [.int i, .int j] H Q := ⟨i, j, rfl, q⟩
theorem r_max2 (q : Q (.int (if j > i then j else i)) H) : rMax2 [.int i, .int j] H Q := ⟨i, j, rfl, q⟩
theorem r_lenL {p : Addr} {xs : List V} (h : SqL K H p xs) (q : Q (.int (xs.length : Nat)) H) : rLen K [.ref p] H Q := ⟨_, _, rfl, .inl ⟨_, h, rfl⟩, q⟩
theorem r_lenT {p : Addr} {xs : List V} (h : SqT K H p xs) (q : Q (.int (xs.length : Nat)) H) : rLen K [.ref p] H Q := ⟨_, _, rfl, .inr ⟨_, h, rfl⟩, q⟩
theorem r_lenS {z : Str} (h : z.length ≤ sizeLine) (q : Q (.int (z.length : Nat)) H) : rLen K [.str z] H Q := ⟨_, _, rfl, ⟨h, rfl⟩, q⟩
theorem r_int1i (q : Q (.int i) H) : rInt1 [.int i] H Q := .inl ⟨_, rfl, q⟩
theorem r_int1b {b : Bool} (q : Q (.int (if b then 1 else 0)) H) : rInt1 [.bl b] H Q := .inr ⟨_, rfl, q⟩
theorem r_divmod (c : CDiv i j) (q : ∀ p, H p = none → Q (.ref p) (upd H p (.tup [.int (i / j), .int (i % j)]))) : rDivmod [.int i, .int j] H Q := ⟨i, j, rfl, c, q⟩
theorem r_isi {a b : String} {c : Bool} (ty : TyX K H x (.type a)) (h : kitB a b = some c) (q : Q (.bl c) H) : rIsi K [x, .ty b] H Q := ⟨x, _, _, _, c, rfl, .ty b, ty, kit_ty h, q⟩
theorem r_isN (q : Q (.bl (decide (x = .non))) H) : rIsN x .non H Q := ⟨rfl, q⟩
theorem r_notN (q : Q (.bl (!decide (x = .non))) H) : rNotN x .non H Q := ⟨rfl, q⟩
theorem r_tru {b : Bool} (h : te σ H fun x H1 => ∃ k, TruV K x H1 k ∧ B k H1) : tTru K te σ H B := h
end
theorem pe_pow2 {X : Cx} {a b r : Int} {j j' p p' pos} (h : a ^ b.toNat = r) (hc : CPow a b) : PE X (.BinOp (.Constant (.int a) j p) .Pow (.Constant (.int b) j' p') pos) (tC (.int r)) :=
  ⟨fun pins s σ H Q I hq => (pe_op op_pow pe_int pe_int).run pins s σ H Q I ⟨a, b, rfl, rfl, hc, (show Q (.int (a ^ b.toNat)) H from by rw [h]; exact hq)⟩⟩
/-! ### loops -/
section
variable {K : PySem.W.Frag} {σ : L2.St} {H : Hp} {D : Ends} {g : TG} {tb : TS} {ta : TA} {te : TE} {wi : TI} {R : It → Hp → Prop}
def ForW (J : It) (g : TG) (tb : TS) (D : Ends) (σ : L2.St) (H1 : Hp) : Prop := ∃ W : Nat → Nat → L2.St → Hp → Prop, (∃ m, W 0 m σ H1) ∧ ∀ i m σ H, W i m σ H →
  (J.stop i H ∧ D.nx σ H) ∨ (J.go i H ∧ ∃ N : L2.St → Hp → Prop, (∀ σ' H', N σ' H' → ∃ m', m' < m ∧ W (i + 1) m' σ' H') ∧ ∀ x H', J.yld i H x H' → g x σ H' fun σ2 H2 => tb { D with nx := N, ct := N, bk := D.nx } σ2 H2)
theorem r_for (q : wi σ H fun J H1 => ForW J g tb D σ H1) : tFor wi g tb D σ H := q
section
variable {nx bk ct : L2.St → Hp → Prop} {rt : VK}
/-- over a list that stands; what follows a turn is a letter -/
theorem r_loopL {p : Addr} {xs : List V} (Pv : Nat → L2.St → Hp → Prop) (hx : SqL K H p xs) (h0 : Pv 0 σ H) (hl : ∀ i σ' H', Pv i σ' H' → SqL K H' p xs)
    (hs : ∀ (i : Nat) (x : V) (σ' : L2.St) (H' : Hp) (N : L2.St → Hp → Prop), xs[i]? = some x → Pv i σ' H' → (∀ σ2 H2, Pv (i + 1) σ2 H2 → N σ2 H2) → g x σ' H' fun σ2 H2 => tb (Ends.mk N rt nx N) σ2 H2)
    (hd : ∀ σ' H', Pv xs.length σ' H' → nx σ' H') : ∃ a, V.ref p = .ref a ∧ (∃ xs, SqL K H a xs) ∧ ForW (Itl K a) g tb (Ends.mk nx rt bk ct) σ H :=
  ⟨p, rfl, ⟨xs, hx⟩, for_list (D := Ends.mk nx rt bk ct) Pv h0 (fun i σ' H' _ p => hl i σ' H' p) (fun i x σ' H' hi p => hs i x σ' H' _ hi p fun _ _ z => z) hd⟩
theorem r_loopT {p : Addr} {xs : List V} (Pv : Nat → L2.St → Hp → Prop) (hx : SqT K H p xs) (h0 : Pv 0 σ H) (hl : ∀ i σ' H', Pv i σ' H' → SqT K H' p xs)
    (hs : ∀ (i : Nat) (x : V) (σ' : L2.St) (H' : Hp) (N : L2.St → Hp → Prop), xs[i]? = some x → Pv i σ' H' → (∀ σ2 H2, Pv (i + 1) σ2 H2 → N σ2 H2) → g x σ' H' fun σ2 H2 => tb (Ends.mk N rt nx N) σ2 H2)
    (hd : ∀ σ' H', Pv xs.length σ' H' → nx σ' H') : ∃ a, V.ref p = .ref a ∧ (∃ xs, SqT K H a xs) ∧ ForW (Itt K a) g tb (Ends.mk nx rt bk ct) σ H :=
  ⟨p, rfl, ⟨xs, hx⟩, for_tup (D := Ends.mk nx rt bk ct) Pv h0 (fun i σ' H' _ p => hl i σ' H' p) (fun i x σ' H' hi p => hs i x σ' H' _ hi p fun _ _ z => z) hd⟩
theorem r_loopR1 {j : Int} (Pv : Nat → L2.St → Hp → Prop) (b : -1000000000 ≤ j ∧ j ≤ 1000000000) (h0 : Pv 0 σ H)
    (hs : ∀ (i : Nat) (σ' : L2.St) (H' : Hp) (N : L2.St → Hp → Prop), i < j.toNat → Pv i σ' H' → (∀ σ2 H2, Pv (i + 1) σ2 H2 → N σ2 H2) → g (.int (i : Int)) σ' H' fun σ2 H2 => tb (Ends.mk N rt nx N) σ2 H2)
    (hd : ∀ σ' H', Pv j.toNat σ' H' → nx σ' H') : ∃ k : Int, [V.int j] = [.int k] ∧ -(2 ^ 62) ≤ k ∧ k < 2 ^ 62 ∧ ForW (Itr 0 k.toNat) g tb (Ends.mk nx rt bk ct) σ H :=
  ⟨j, rfl, by omega, by omega, for_range (D := Ends.mk nx rt bk ct) Pv h0 (fun i σ' H' hi p => by
    have e : (0 : Int) + (i : Int) = (i : Int) := Int.zero_add _
    rw [e]
    exact hs i σ' H' _ hi p fun _ _ z => z) hd⟩
theorem r_loopR2 {a j : Int} (Pv : Nat → L2.St → Hp → Prop) (b : -1000000000000000 ≤ a ∧ a ≤ 1000000000000000 ∧ -1000000000000000 ≤ j ∧ j ≤ 1000000000000000) (h0 : Pv 0 σ H)
    (hs : ∀ (i : Nat) (σ' : L2.St) (H' : Hp) (N : L2.St → Hp → Prop), i < (j - a).toNat → Pv i σ' H' → (∀ σ2 H2, Pv (i + 1) σ2 H2 → N σ2 H2) → g (.int (a + (i : Int))) σ' H' fun σ2 H2 => tb (Ends.mk N rt nx N) σ2 H2)
    (hd : ∀ σ' H', Pv (j - a).toNat σ' H' → nx σ' H') : ∃ k l : Int, [V.int a, V.int j] = [.int k, .int l] ∧ (-(2 ^ 62) ≤ k ∧ k < 2 ^ 62 ∧ -(2 ^ 62) ≤ l ∧ l < 2 ^ 62) ∧ ForW (Itr k (l - k).toNat) g tb (Ends.mk nx rt bk ct) σ H :=
  ⟨a, j, rfl, ⟨by omega, by omega, by omega, by omega⟩, for_range (D := Ends.mk nx rt bk ct) Pv h0 (fun i σ' H' hi p => hs i σ' H' _ hi p fun _ _ z => z) hd⟩
end
theorem r_iList (q : te σ H fun x H1 => ∃ a, x = .ref a ∧ (∃ xs, SqL K H1 a xs) ∧ R (Itl K a) H1) : iList K te σ H R := q
theorem r_iTup (q : te σ H fun x H1 => ∃ a, x = .ref a ∧ (∃ xs, SqT K H1 a xs) ∧ R (Itt K a) H1) : iTup K te σ H R := q
theorem r_iRng1 (q : ta σ H fun vs H1 => ∃ j : Int, vs = [.int j] ∧ -(2 ^ 62) ≤ j ∧ j < 2 ^ 62 ∧ R (Itr 0 j.toNat) H1) : iRng1 ta σ H R := q
theorem r_iRng2 (q : ta σ H fun vs H1 => ∃ i j : Int, vs = [.int i, .int j] ∧ (-(2 ^ 62) ≤ i ∧ i < 2 ^ 62 ∧ -(2 ^ 62) ≤ j ∧ j < 2 ^ 62) ∧ R (Itr i (j - i).toNat) H1) : iRng2 ta σ H R := q
end
/-- behind a statement a word, from which the rest is shown once -/
theorem r_cut {t u : TS} {σ : L2.St} {H : Hp} {nx bk ct : L2.St → Hp → Prop} {rt : VK} (M : L2.St → Hp → Prop) (h : t (Ends.mk M rt bk ct) σ H) (k : ∀ σ' H', M σ' H' → u (Ends.mk nx rt bk ct) σ' H') : Evl.tCut t u (Ends.mk nx rt bk ct) σ H := ⟨M, h, k⟩
/-! ### ranges by a step -/
theorem rg_up {a b c : Int} (h1 : 1 ≤ c) (h2 : c ≤ 1000000) (ha : -1000000000 ≤ a) (ha' : a ≤ 1000000000) (hb : -1000000000 ≤ b) (hb' : b ≤ 1000000000) : RgC a b c (if a < b then ((b - a - 1) / c + 1).toNat else 0) := by
  have hc : c > 0 := by omega
  have e : Builtin.Range.rangeSize a b c = if a < b then (b - a - 1) / c + 1 else 0 := by
    unfold Builtin.Range.rangeSize
    rw [if_pos hc]
  by_cases hab : a < b
  · have q0 : 0 ≤ (b - a - 1) / c := Int.ediv_nonneg (by omega) (by omega)
    have q1 : (b - a - 1) / c ≤ b - a - 1 := Int.ediv_le_self _ (by omega)
    have q2 : (b - a - 1) / c * c ≤ b - a - 1 := Int.ediv_mul_le _ (by omega)
    rw [if_pos hab] at e ⊢
    refine ⟨by omega, by omega, ?_, ?_⟩
    · unfold Builtin.Range.small
      rw [e]
      have q3 : ((b - a - 1) / c + 1) * c = (b - a - 1) / c * c + c := by rw [Int.add_mul, Int.one_mul]
      have q4 : ((b - a - 1) / c + 1 - 1) * c = (b - a - 1) / c * c := by rw [Int.add_sub_cancel]
      have q5 : 0 ≤ (b - a - 1) / c * c := Int.mul_nonneg q0 (by omega)
      simp only [Builtin.Range.rangeFitsLong, Bool.and_eq_true, Bool.or_eq_true, decide_eq_true_eq, beq_iff_eq, hc, if_true]
      first | omega | (simp only [q3, q4]; omega) | (split <;> omega)
    · rw [e]; omega
  · rw [if_neg hab] at e ⊢
    refine ⟨by omega, by omega, ?_, ?_⟩
    · unfold Builtin.Range.small
      rw [e]
      simp only [Builtin.Range.rangeFitsLong, Bool.and_eq_true, Bool.or_eq_true, decide_eq_true_eq, beq_iff_eq, hc, if_true]
      first | omega | (split <;> omega) | simp <;> omega
    · rw [e]; rfl
/-! ### comprehensions whose elements leave the heap -/
section
variable {K : PySem.W.Frag} {σ : L2.St} {H : Hp} {Q : VK} {g : TG} {tt : TT} {te : TE} {wi : TI} {ws : List Nat}
def LcW (J : It) (g : TG) (tt : TT) (te : TE) (vs : List Nat) (σ : L2.St) (H1 : Hp) (Q : VK) : Prop := ∀ D, H1 D = none → ∃ W : Nat → Nat → Hp → Prop, (∃ m, W 0 m (upd H1 D (.lst []))) ∧ ∀ i m H, W i m H →
  (J.stop i H ∧ Q (.ref D) H) ∨ (J.go i H ∧ ∃ Nx : Hp → Prop, (∀ H', Nx H' → ∃ m', m' < m ∧ W (i + 1) m' H') ∧ ∀ x H', J.yld i H x H' → g x (wipe σ vs) H' fun σ2 H2 => wipe σ2 vs = wipe σ vs ∧ tt σ2 H2 fun b H3 =>
    if b = true then te σ2 H3 fun y H4 => ∃ acc, H4 D = some (.lst acc) ∧ acc.length < sizeLine ∧ Nx (upd H4 D (.lst (acc ++ [y]))) else Nx H3)
theorem r_lc (q : wi σ H fun J H1 => LcW J g tt te ws σ H1 Q) : tLc wi g tt te ws σ H Q := q
theorem map_step {xs : List V} {f : V → V} {i : Nat} {x : V} (h : xs[i]? = some x) : (xs.take i).map f ++ [f x] = (xs.take (i + 1)).map f := by
  have hl : i < xs.length := (List.getElem?_eq_some_iff.mp h).1
  have e : xs.take (i + 1) = xs.take i ++ [x] := by
    rw [List.take_add_one, h]; rfl
  rw [e, List.map_append]; rfl
/-- over a list, no test -/
theorem r_lcP {j : Nat} {p : Addr} {xs : List V} (f : V → V) (hx : SqL K H p xs) (hz : xs.length ≤ 100000) (hw : ∀ x, wipe ((wipe σ ws).set j (some x)) ws = wipe σ ws)
    (he : ∀ (x : V) (D : Addr) (acc : List V) (Q' : VK), x ∈ xs → H D = none → Q' (f x) (upd H D (.lst acc)) → te ((wipe σ ws).set j (some x)) (upd H D (.lst acc)) Q') (q : ∀ D, H D = none → Q (.ref D) (upd H D (.lst (xs.map f)))) :
    ∃ a, V.ref p = .ref a ∧ (∃ xs, SqL K H a xs) ∧ LcW (Itl K a) (gName j) tYes te ws σ H Q := by
  refine ⟨p, rfl, ⟨xs, hx⟩, fun D hD => lc_list (K := K) (a := p) (xs := xs) (fun i H' => H' = upd H D (.lst ((xs.take i).map f))) (by simp) (fun i H' _ e => ?_) (fun i x H' hi e => ?_) (fun H' e => ?_)⟩
  · rw [e]; exact Same.seq (Same.new (Same.refl H) hD) hx
  · subst e
    refine ⟨hw x, ?_⟩
    show te _ _ _
    refine he x D _ _ (List.mem_of_getElem? hi) hD ⟨_, upd_same, ?_, ?_⟩
    · rw [List.length_map, List.length_take]
      have h2 : (100000 : Nat) < sizeLine := by rw [sizeLine_eq]; decide
      omega
    · rw [upd2, map_step hi]
  · subst e
    rw [List.take_length]
    exact q D hD
theorem r_lcPT {j : Nat} {p : Addr} {xs : List V} (f : V → V) (hx : SqT K H p xs) (hz : xs.length ≤ 100000) (hw : ∀ x, wipe ((wipe σ ws).set j (some x)) ws = wipe σ ws)
    (he : ∀ (x : V) (D : Addr) (acc : List V) (Q' : VK), x ∈ xs → H D = none → Q' (f x) (upd H D (.lst acc)) → te ((wipe σ ws).set j (some x)) (upd H D (.lst acc)) Q') (q : ∀ D, H D = none → Q (.ref D) (upd H D (.lst (xs.map f)))) :
    ∃ a, V.ref p = .ref a ∧ (∃ xs, SqT K H a xs) ∧ LcW (Itt K a) (gName j) tYes te ws σ H Q := by
  refine ⟨p, rfl, ⟨xs, hx⟩, fun D hD => lc_tup (K := K) (a := p) (xs := xs) (fun i H' => H' = upd H D (.lst ((xs.take i).map f))) (by simp) (fun i H' _ e => ?_) (fun i x H' hi e => ?_) (fun H' e => ?_)⟩
  · rw [e]
    rcases hx with (h | ⟨o, h⟩) | h
    · exact .inl (.inl (Same.new (Same.refl H) hD _ _ h))
    · exact .inl (.inr ⟨o, Same.new (Same.refl H) hD _ _ h⟩)
    · exact .inr h
  · subst e
    refine ⟨hw x, ?_⟩
    show te _ _ _
    refine he x D _ _ (List.mem_of_getElem? hi) hD ⟨_, upd_same, ?_, ?_⟩
    · rw [List.length_map, List.length_take]
      have h2 : (100000 : Nat) < sizeLine := by rw [sizeLine_eq]; decide
      omega
    · rw [upd2, map_step hi]
  · subst e
    rw [List.take_length]
    exact q D hD
theorem r_all {p : Addr} {bs : List Bool} (h : SqL K H p (bs.map V.bl)) (q : Q (.bl (bs.all id)) H) : rAll K [.ref p] H Q := ⟨p, bs, rfl, h, q⟩
theorem r_sum {p : Addr} {ns : List Int} (h : SqL K H p (ns.map V.int)) (q : Q (.int ns.sum) H) : rSum K [.ref p] H Q := ⟨p, ns, rfl, h, q⟩
theorem r_any {p : Addr} {bs : List Bool} (h : SqL K H p (bs.map V.bl)) (q : Q (.bl (bs.any id)) H) : rAny K [.ref p] H Q := ⟨p, bs, rfl, h, q⟩
end
/-! ### while -/
section
variable {σ : L2.St} {H : Hp} {c : TT} {tb : TS} {nx bk ct : L2.St → Hp → Prop} {rt : VK}
/-- what is wanted behind a while's test -/
def WhB (W : Nat → L2.St → Hp → Prop) (m : Nat) (tb : TS) (nx : L2.St → Hp → Prop) (rt : VK) (b : Bool) (σ : L2.St) (H : Hp) : Prop :=
  if b = true then ∃ N : L2.St → Hp → Prop, (∀ σ' H', N σ' H' → ∃ m', m' < m ∧ W m' σ' H') ∧ tb (Ends.mk N rt nx N) σ H else nx σ H
theorem whB {W : Nat → L2.St → Hp → Prop} {m : Nat} {b : Bool} (h1 : b = true → ∀ N : L2.St → Hp → Prop, (∀ m' σ2 H2, m' < m → W m' σ2 H2 → N σ2 H2) → tb (Ends.mk N rt nx N) σ H) (h2 : b = false → nx σ H) : WhB W m tb nx rt b σ H := by
  cases b with
  | true => exact ite_t ⟨_, fun _ _ z => z, h1 rfl _ fun m' σ2 H2 a b => ⟨m', a, b⟩⟩
  | false => exact ite_f (h2 rfl)
theorem r_while (W : Nat → L2.St → Hp → Prop) (m0 : Nat) (h0 : W m0 σ H)
    (hs : ∀ (m : Nat) (σ' : L2.St) (H' : Hp), W m σ' H' → c σ' H' fun b H1 => WhB W m tb nx rt b σ' H1) : tWhile c tb (Ends.mk nx rt bk ct) σ H := ⟨W, ⟨m0, h0⟩, hs⟩
end
theorem r_iRng3 {σ : L2.St} {H : Hp} {ta : TA} {R : It → Hp → Prop} (q : ta σ H fun vs H1 => ∃ (i j c : Int) (n : Nat), vs = [.int i, .int j, .int c] ∧ RgC i j c n ∧ R (Itc i c n) H1) : iRng3 ta σ H R := q
theorem r_loopR3 {σ : L2.St} {H : Hp} {g : TG} {tb : TS} {nx bk ct : L2.St → Hp → Prop} {rt : VK} {a b c : Int} (Pv : Nat → L2.St → Hp → Prop) (h1 : 1 ≤ c ∧ c ≤ 1000000) (ha : -1000000000 ≤ a ∧ a ≤ 1000000000) (hb : -1000000000 ≤ b ∧ b ≤ 1000000000) (h0 : Pv 0 σ H)
    (hs : ∀ (i : Nat) (σ' : L2.St) (H' : Hp) (N : L2.St → Hp → Prop), i < (if a < b then ((b - a - 1) / c + 1).toNat else 0) → Pv i σ' H' → (∀ σ2 H2, Pv (i + 1) σ2 H2 → N σ2 H2) → g (.int (a + (i : Nat) * c)) σ' H' fun σ2 H2 => tb (Ends.mk N rt nx N) σ2 H2)
    (hd : ∀ σ' H', Pv (if a < b then ((b - a - 1) / c + 1).toNat else 0) σ' H' → nx σ' H') :
    ∃ (i j k : Int) (n : Nat), [V.int a, V.int b, V.int c] = [.int i, .int j, .int k] ∧ RgC i j k n ∧ ForW (Itc i k n) g tb (Ends.mk nx rt bk ct) σ H :=
  ⟨a, b, c, _, rfl, rg_up h1.1 h1.2 ha.1 ha.2 hb.1 hb.2, for_rangeC (D := Ends.mk nx rt bk ct) Pv h0 (fun i σ' H' hi p => hs i σ' H' _ hi p fun _ _ z => z) hd⟩
/-! ### tests that leave the heap: what they tell as one proposition -/
def Pu (T : TT) (σ : L2.St) (H : Hp) (p : Prop) : Prop := ∃ b : Bool, (b = true ↔ p) ∧ ∀ B : Bool → Hp → Prop, B b H → T σ H B
section
variable {σ : L2.St} {H : Hp} {T U : TT} {p q : Prop} {D : Ends} {t u : TS} {ta tb : TE} {Q : VK}
theorem pu_and (h1 : Pu T σ H p) (h2 : p → Pu U σ H q) : Pu (tAnd T U) σ H (p ∧ q) := by
  obtain ⟨b, e, h1⟩ := h1
  cases b with
  | false => exact ⟨false, ⟨fun z => (nomatch z), fun z => e.mpr z.1⟩, fun B hB => h1 _ (ite_f hB)⟩
  | true =>
    obtain ⟨c, e2, h2⟩ := h2 (e.mp rfl)
    exact ⟨c, ⟨fun z => ⟨e.mp rfl, e2.mp z⟩, fun z => e2.mpr z.2⟩, fun B hB => h1 _ (ite_t (h2 _ hB))⟩
theorem pu_or (h1 : Pu T σ H p) (h2 : ¬ p → Pu U σ H q) : Pu (tOr T U) σ H (p ∨ q) := by
  obtain ⟨b, e, h1⟩ := h1
  cases b with
  | true => exact ⟨true, ⟨fun _ => .inl (e.mp rfl), fun _ => rfl⟩, fun B hB => h1 _ (ite_t hB)⟩
  | false =>
    have hn : ¬ p := fun z => nomatch e.mpr z
    obtain ⟨c, e2, h2⟩ := h2 hn
    exact ⟨c, ⟨fun z => .inr (e2.mp z), fun z => z.elim (fun y => absurd y hn) e2.mpr⟩, fun B hB => h1 _ (ite_f (h2 _ hB))⟩
theorem pu_not (h1 : Pu T σ H p) : Pu (tNot T) σ H (¬ p) := by
  obtain ⟨b, e, h1⟩ := h1
  refine ⟨!b, ?_, fun B hB => h1 _ hB⟩
  cases b
  · exact ⟨fun _ z => (nomatch e.mpr z), fun _ => rfl⟩
  · exact ⟨fun z => (nomatch z), fun z => absurd (e.mp rfl) z⟩
theorem dec_n {i : Decidable p} : (!(@decide p i)) = true ↔ ¬ p := by
  cases i with
  | isTrue y => exact ⟨fun z => (nomatch z), fun n => absurd y n⟩
  | isFalse y => exact ⟨fun _ => y, fun _ => rfl⟩
theorem pu_x (h : False) : Pu T σ H True := h.elim
theorem pu_d {i : Decidable p} (h : ∀ B : Bool → Hp → Prop, B (@decide p i) H → T σ H B) : Pu T σ H p := ⟨@decide p i, ⟨of_decide_eq_true, decide_eq_true⟩, h⟩
theorem pu_n {i : Decidable p} (h : ∀ B : Bool → Hp → Prop, B (!(@decide p i)) H → T σ H B) : Pu T σ H (¬ p) := ⟨!(@decide p i), dec_n, h⟩
theorem pu_b {b : Bool} (h : ∀ B : Bool → Hp → Prop, B b H → T σ H B) : Pu T σ H (b = true) := ⟨b, Iff.rfl, h⟩
theorem pu_nb {b : Bool} (h : ∀ B : Bool → Hp → Prop, B (!b) H → T σ H B) : Pu T σ H (b = false) := ⟨!b, by cases b <;> decide, h⟩
theorem r_ifP (hT : Pu T σ H p) (h1 : p → t D σ H) (h2 : ¬ p → u D σ H) : tIfS T t u D σ H := by
  obtain ⟨b, e, h⟩ := hT
  cases b with
  | true => exact h _ (ite_t (h1 (e.mp rfl)))
  | false => exact h _ (ite_f (h2 fun z => nomatch e.mpr z))
theorem r_tifP (hT : Pu T σ H p) (h1 : p → ta σ H Q) (h2 : ¬ p → tb σ H Q) : tIf T ta tb σ H Q := by
  obtain ⟨b, e, h⟩ := hT
  cases b with
  | true => exact h _ (ite_t (h1 (e.mp rfl)))
  | false => exact h _ (ite_f (h2 fun z => nomatch e.mpr z))
theorem r_ifPy (hT : Pu T σ H p) (hp : p) (h1 : t D σ H) : tIfS T t u D σ H := r_ifP hT (fun _ => h1) fun n => absurd hp n
theorem r_ifPn (hT : Pu T σ H p) (hp : ¬ p) (h1 : u D σ H) : tIfS T t u D σ H := r_ifP hT (fun n => absurd n hp) fun _ => h1
theorem r_tifPy (hT : Pu T σ H p) (hp : p) (h1 : ta σ H Q) : tIf T ta tb σ H Q := r_tifP hT (fun _ => h1) fun n => absurd hp n
theorem r_tifPn (hT : Pu T σ H p) (hp : ¬ p) (h1 : tb σ H Q) : tIf T ta tb σ H Q := r_tifP hT (fun n => absurd n hp) fun _ => h1
end
end Vs

/-! ## own exceptions: what is raised, caught, asked -/
namespace Vs
open PySem PySem.Spec PyProof.Rows L2
/-- isinstance(e, c) of the exception that a suite holds -/
def rIsX (K : PySem.W.Frag) (cls : Value) (d : Option Addr) (a : Addr) : List V → Hp → VK → Prop := fun xs H Q =>
  ∃ (c : V) (cv : Value) (D : Addr) (b : Bool), xs = [.ref a, c] ∧ cls = .ref D ∧ d = none ∧ ExcC K D ∧ ClsV c cv ∧ PySem.W.kitOne K (.ref D) cv = some b ∧ Q (.bl b) H
def rIsXT (K : PySem.W.Frag) (cls : Value) (d : Option Addr) (a : Addr) : List V → Hp → VK → Prop := fun xs H Q =>
  ∃ (tp : Addr) (cs : List V) (us : List Value) (D : Addr) (b : Bool), xs = [.ref a, .ref tp] ∧ H tp = some (.tup cs) ∧ cls = .ref D ∧ d = none ∧ ExcC K D ∧ Paired ClsV cs us ∧ PySem.W.kitAny K (.ref D) us = some b ∧ Q (.bl b) H
theorem call_isX {X : Cx} {a : Addr} {oe : Obj} {cls : Value} {d : Option Addr} {pn : List (Addr × Obj)} (hz : Zc cls d oe) (hf : ∃ vs, oe.data = .fields vs) : CallR (X.suite a ((a, oe) :: pn)) (.builtin "isinstance") (rIsX X.K cls d a) := by
  intro pins s σ H xs us Q I r h
  obtain ⟨c, cv, D, b, e1, rfl, rfl, C, hc, e, q⟩ := h
  exact call_isE C hz hf pins s σ H xs us Q I r ⟨c, cv, b, e1, fun u ru => hc.eq ru, e, q⟩
theorem call_isXT {X : Cx} {a : Addr} {oe : Obj} {cls : Value} {d : Option Addr} {pn : List (Addr × Obj)} (hz : Zc cls d oe) (hf : ∃ vs, oe.data = .fields vs) : CallR (X.suite a ((a, oe) :: pn)) (.builtin "isinstance") (rIsXT X.K cls d a) := by
  intro pins s σ H xs us Q I r h
  obtain ⟨tp, cs, ws, D, b, rfl, hT, rfl, rfl, C, hc, e, q⟩ := h
  obtain ⟨u1, u2, rfl, r1, r2⟩ := vals2 r
  cases (show u1 = Value.ref a from r1)
  cases (show u2 = Value.ref tp from r2)
  have hget := (I.pin (a, oe) (List.mem_append_left _ List.mem_cons_self)).1
  have J : PySem.W.InstAt s.heap a oe D none := by
    obtain ⟨vs, hv⟩ := hf
    refine ⟨hget, hz.1, ?_, ?_⟩
    · unfold PySem.W.notCls; rw [hv]
    · rw [hz.2]; trivial
  have hO : ObjOk X.prog X.w H s.heap tp (.tup cs) := I.hok tp _ hT
  obtain ⟨_, its, rv, ⟨oc, od, dt, sl⟩, g1, g2, n, g3⟩ := hO
  have e4 : its = ws := ClsV.all hc rv
  subst e4
  dsimp only at g2 g3
  subst g2 g3
  exact PySem.W.kia_tup (PySem.W.handS_kitx_exc C.hg C.hk C.hs C.hd C.ha C.hn C.ht C.hm) I.kIn J g1 e (fun z => nomatch z) fun tk => ⟨.bl b, H, I.tok tk, rfl, q⟩
/-- what such a class must say, as one Bool -/
def excB (K : PySem.W.Frag) (D : Addr) : Bool :=
  decide (PySem.W.findIn K (.ref D) "__getattribute__" = some (some (.builtin "BaseException.__getattribute__"))) &&
  (decide (PySem.W.findIn K (.ref D) "__getattr__" = some none) && (decide (PySem.W.subIn K (.ref D) (.type "BaseException") = some true) &&
  (PySem.W.hasDictIn K D && (decide (PySem.W.findIn K (.ref D) "__class__" = some (some (.builtin "object.__class__"))) &&
  (decide (PySem.W.specialIn K (.builtin "object.__class__") "__get__" = some (some (.builtin "getset_descriptor.__get__"))) &&
  (decide (PySem.W.takesIn K (.builtin "object.__class__") = some true) && decide (PySem.W.mroIn K D (.type "object") = some true)))))))
theorem b2 {a b : Bool} (h : (a && b) = true) : a = true ∧ b = true := Bool.and_eq_true_iff.mp h
theorem excB_ok {K : PySem.W.Frag} {D : Addr} (h : excB K D = true) : ExcC K D := by
  obtain ⟨h1, h⟩ := b2 h
  obtain ⟨h2, h⟩ := b2 h
  obtain ⟨h3, h⟩ := b2 h
  obtain ⟨h4, h⟩ := b2 h
  obtain ⟨h5, h⟩ := b2 h
  obtain ⟨h6, h⟩ := b2 h
  obtain ⟨h7, h8⟩ := b2 h
  exact ⟨of_decide_eq_true h1, of_decide_eq_true h2, of_decide_eq_true h3, h4, of_decide_eq_true h5, of_decide_eq_true h6, of_decide_eq_true h7, of_decide_eq_true h8⟩
/-- the readings -/
def tRaise (E : XK) (C : Addr) : TS := fun _ _ H => E (.ref C) none H
def tTryAs (K : PySem.W.Frag) (c : Value) (i : Nat) (tb : WX → TS) (ts : Addr → Value → Option Addr → TS) (Wout : WX) : TS := fun D σ H => tb (wAs K c i ts Wout D) D σ H
section
variable {K : PySem.W.Frag} {σ : L2.St} {H : Hp} {Q : VK} {D : Ends} {E : XK} {C : Addr}
theorem r_raise (q : E (.ref C) none H) : tRaise E C D σ H := q
theorem r_tryAs {c : Value} {i : Nat} {tb : WX → TS} {ts : Addr → Value → Option Addr → TS} {Wout : WX} (q : tb (wAs K c i ts Wout D) D σ H) : tTryAs K c i tb ts Wout D σ H := q
theorem r_callS {sp : Sp} {W : WX} {t : TA} (q : t σ H fun vs H1 => sp vs H1 Q (WE W σ)) : tCallS sp (WE W) t σ H Q := q
/-- caught -/
theorem r_caught {nx bk ct : L2.St → Hp → Prop} {rt : VK} {cls c : Value} {d : Option Addr} {i : Nat} {ts : Addr → Value → Option Addr → TS} {Wout : WX} (h : PySem.W.exmOne K cls c = some true)
    (q : ∀ a, H a = none → ts a cls d (Ends.mk (fun σ' H' => nx (σ'.set i none) H') rt (fun σ' H' => bk (σ'.set i none) H') (fun σ' H' => ct (σ'.set i none) H')) (σ.set i (some (.ref a))) H) :
    WE (wAs K c i ts Wout (Ends.mk nx rt bk ct)) σ cls d H := ⟨true, h, fun _ => q, fun z => nomatch z⟩
theorem r_isX {a : Addr} {c : V} {cv : Value} {b : Bool} (h : ExcC K C) (hc : ClsV c cv) (e : PySem.W.kitOne K (.ref C) cv = some b) (q : Q (.bl b) H) : rIsX K (.ref C) none a [.ref a, c] H Q := ⟨c, cv, C, b, rfl, rfl, rfl, h, hc, e, q⟩
theorem r_isXT {a tp : Addr} {cs : List V} {us : List Value} {b : Bool} (ht : H tp = some (.tup cs)) (h : ExcC K C) (hc : Paired ClsV cs us) (e : PySem.W.kitAny K (.ref C) us = some b) (q : Q (.bl b) H) : rIsXT K (.ref C) none a [.ref a, .ref tp] H Q := ⟨tp, cs, us, C, b, rfl, ht, rfl, rfl, h, hc, e, q⟩
end
end Vs

open PySem PySem.Spec PyProof.Rows L2 Vs
namespace Vs
theorem Same.at {H H' : Hp} {b : Addr} {o : HO} (k : Same H H') (h : H b = some o) : H' b = some o := k b o h
theorem sqL_of {K : PySem.W.Frag} {H : Hp} {a : Addr} {o : HO} {xs : List V} (h : H a = some o) (e : o = .lst xs) : SqL K H a xs := SqL.of (e ▸ h)
theorem sqT_of {K : PySem.W.Frag} {H : Hp} {a : Addr} {o : HO} {xs : List V} (h : H a = some o) (e : o = .tup xs) : SqT K H a xs := SqT.of (e ▸ h)
/-- a written place of a written list -/
theorem ix_some {xs : List V} {i : Int} {n : Nat} {v : V} (e : i = (n : Int)) (h : xs[n]? = some v) : atI xs i = some v := by rw [e]; exact atI_nat h
theorem r_ixA {K : PySem.W.Frag} {H : Hp} {Q : VK} {i : Int} {p : Addr} {xs : List V} (P : V → Prop) (h : SqL K H p xs) (h0 : 0 ≤ i) (h1 : i < (xs.length : Int)) (hP : ∀ v ∈ xs, P v) (q : ∀ v, P v → Q v H) : rIx K (.ref p) (.int i) H Q := by
  have hl : i.toNat < xs.length := by omega
  have hg : xs[i.toNat]? = some xs[i.toNat] := List.getElem?_eq_getElem hl
  exact r_ixL h (ix_some (n := i.toNat) (by omega) hg) (q _ (hP _ (List.getElem_mem hl)))
theorem r_ixAT {K : PySem.W.Frag} {H : Hp} {Q : VK} {i : Int} {p : Addr} {xs : List V} (P : V → Prop) (h : SqT K H p xs) (h0 : 0 ≤ i) (h1 : i < (xs.length : Int)) (hP : ∀ v ∈ xs, P v) (q : ∀ v, P v → Q v H) : rIx K (.ref p) (.int i) H Q := by
  have hl : i.toNat < xs.length := by omega
  have hg : xs[i.toNat]? = some xs[i.toNat] := List.getElem?_eq_getElem hl
  exact r_ixT h (ix_some (n := i.toNat) (by omega) hg) (q _ (hP _ (List.getElem_mem hl)))
theorem r_ixH {K : PySem.W.Frag} {H : Hp} {Q : VK} {i : Int} {p : Addr} {xs : List V} (P : V → Hp → Prop) (h : SqL K H p xs) (h0 : 0 ≤ i) (h1 : i < (xs.length : Int)) (hP : ∀ v ∈ xs, P v H) (q : ∀ v, P v H → Q v H) : rIx K (.ref p) (.int i) H Q := r_ixA (fun v => P v H) h h0 h1 hP q
/-- an item of a list of ints, at a place that lies in it -/
theorem r_ixI {K : PySem.W.Frag} {H : Hp} {Q : VK} {i : Int} {p : Addr} {xs : List V} (h : SqL K H p xs) (h0 : 0 ≤ i) (h1 : i < (xs.length : Int)) (hP : ∀ v ∈ xs, ∃ z : Int, v = .int z) (q : ∀ z, Q (.int z) H) : rIx K (.ref p) (.int i) H Q :=
  r_ixA _ h h0 h1 hP fun v ⟨z, e⟩ => e ▸ q z
theorem r_ixIT {K : PySem.W.Frag} {H : Hp} {Q : VK} {i : Int} {p : Addr} {xs : List V} (h : SqT K H p xs) (h0 : 0 ≤ i) (h1 : i < (xs.length : Int)) (hP : ∀ v ∈ xs, ∃ z : Int, v = .int z) (q : ∀ z, Q (.int z) H) : rIx K (.ref p) (.int i) H Q :=
  r_ixAT _ h h0 h1 hP fun v ⟨z, e⟩ => e ▸ q z
end Vs
/-- two addresses apart -/
local macro_rules | `(tactic| k_clsL) => `(tactic| first
  | with_reducible assumption
  | with_reducible exact Ne.symm (by with_reducible assumption)
  | (with_reducible refine' ne_of_none ?h1 ?h2; (case h2 => with_reducible assumption); (case h1 => kcj_m))
  | (with_reducible refine' Ne.symm (ne_of_none ?h1 ?h2); (case h2 => with_reducible assumption); (case h1 => kcj_m))
  | (with_reducible refine' ne_of ?h1 ?h2 ?d; (case h1 => with_reducible assumption); (case h2 => kcj_m); (case d => intro z; cases z)))
/-- what stands at an address -/
local macro_rules | `(tactic| kcj_m) => `(tactic| first
  | with_reducible assumption
  | with_reducible exact upd_same
  | (with_reducible refine' upd_old ?hp ?h; (case hp => with_reducible assumption); (case h => kcj_m))
  | (with_reducible refine' Eq.trans (upd_ne ?ne) ?hq; (case ne => k_clsL); (case hq => kcj_m))
  | (with_reducible refine' Kp.at ?k ?hq ?ne; (case k => with_reducible assumption); (case hq => kcj_m); (case ne => k_clsL))
  | (with_reducible refine' Same.at ?k ?hq; (case k => with_reducible assumption); (case hq => kcj_m)))
local macro_rules | `(tactic| k_places) => `(tactic| first
  | with_reducible assumption
  | (with_reducible refine' Same.seq ?k ?h; (case h => with_reducible assumption); (case k => k_subL))
  | (with_reducible refine' Kp.seqn ?k ?hl ?h; (case h => with_reducible assumption); (case hl => with_reducible assumption); (case k => k_subL))
  | (with_reducible refine' sqL_of ?hq ?e; (case hq => kcj_m); (case e => exact rfl))
  | (with_reducible refine' sqT_of ?hq ?e; (case hq => kcj_m); (case e => exact rfl)))
local macro_rules | `(tactic| k_offL) => `(tactic| first
  | with_reducible assumption
  | (show CMul _ _; unfold CMul; omega)
  | exact ⟨by omega, by omega⟩
  | (show (0 : Int) < _; omega)
  | (show (0 : Int) ≤ _; omega)
  | exact ⟨by omega, by omega, by decide⟩
  | exact wide_div (by omega) (b := 64) (by omega) (by decide) (by decide)
  | exact ⟨by decide, by decide, by decide⟩
  | omega)
/-- a value's type -/
local macro_rules | `(tactic| kfm_turns) => `(tactic| first
  | with_reducible assumption
  | exact .base (.int _)
  | exact .base (.bl _)
  | exact .base .non
  | exact .base (.str _)
  | (refine' .base (.tup ?hq); (case hq => kcj_m))
  | (refine' .base (.lst ?hq); (case hq => kcj_m)))
/-- one step -/
local macro_rules | `(tactic| k_memK) => `(tactic| first
  | ((with_reducible refine' r_var ?h ?_); (case h => exact rfl))
  | (with_reducible refine r_c ?_)
  | (with_reducible refine r_op ?_)
  | (with_reducible refine r_un ?_)
  | (with_reducible refine r_seq ?_)
  | (with_reducible refine r_asg ?_)
  | (with_reducible refine r_gName ?_)
  | (with_reducible refine r_I0 ?_)
  | ((with_reducible refine' r_I ?c ?_); (case c => k_offL))
  | (with_reducible refine r_U ?_)
  | (with_reducible refine r_nil ?_)
  | (with_reducible refine r_cons ?_)
  | (with_reducible refine r_call0 ?_)
  | (with_reducible refine r_call ?_)
  | (with_reducible refine r_cb ?_)
  | (with_reducible refine r_test ?_)
  | (with_reducible refine r_tB ?_)
  | (with_reducible refine r_isbl ?_)
  | (with_reducible refine r_isint ?_)
  | (with_reducible refine r_and ?_)
  | (with_reducible refine r_or ?_)
  | (with_reducible refine r_not ?_)
  | (with_reducible refine r_andV ?_)
  | (with_reducible refine r_orV ?_)
  | (with_reducible refine r_notV ?_)
  | ((with_reducible refine' r_ifP ?T ?h1 ?h2); (case T => kpc_turns); k_allIn)
  | ((with_reducible refine' r_tifP ?T ?h1 ?h2); (case T => kpc_turns); k_allIn)
  | (with_reducible refine r_chain ?_)
  | (with_reducible refine r_eqI ?_)
  | (with_reducible refine r_neI ?_)
  | (with_reducible refine r_eqB ?_)
  | (with_reducible refine r_neB ?_)
  | (with_reducible refine r_eqS ?_)
  | (with_reducible refine r_neS ?_)
  | (with_reducible refine ite_t ?_)
  | (with_reducible refine ite_f ?_)
  | (with_reducible refine ite_nt ?_)
  | (with_reducible refine ite_nf ?_)
  | ((with_reducible refine ite_y ?hp ?_); (case hp => first | (with_reducible assumption) | (with_reducible exact rfl) | omega))
  | ((with_reducible refine ite_n ?hp ?_); (case hp => first | (with_reducible assumption) | (with_reducible exact rfl) | omega))
  | ((with_reducible refine ite_ny ?hp ?_); (case hp => first | (with_reducible assumption) | (with_reducible exact rfl) | omega))
  | ((with_reducible refine ite_nn ?hp ?_); (case hp => first | (with_reducible assumption) | (with_reducible exact rfl) | omega))
  | (with_reducible refine r_next ?_)
  | (with_reducible refine r_brk ?_)
  | (with_reducible refine r_cont ?_)
  | (with_reducible refine r_ret ?_)
  | (with_reducible refine r_retN ?_)
  | (with_reducible refine r_drop ?_)
  | (with_reducible refine r_tup ?_)
  | (with_reducible refine r_lst ?_)
  | ((with_reducible refine' r_size ?h ?_); (case h => (first | decide | (simp only [List.length]; omega))))
  | ((with_reducible refine' r_ixL ?h ?ha ?_); (case h => k_places); (case ha => exact rfl))
  | ((with_reducible refine' r_ixT ?h ?ha ?_); (case h => k_places); (case ha => exact rfl))
  | ((with_reducible refine' r_lenL ?h ?_); (case h => k_places))
  | ((with_reducible refine' r_lenT ?h ?_); (case h => k_places))
  | (with_reducible refine r_gSub ?_)
  | ((with_reducible refine' r_setL ?h ?e ?_); (case h => kcj_m); (case e => exact rfl))
  | (with_reducible refine r_int1i ?_)
  | (with_reducible refine r_int1b ?_)
  | (with_reducible refine r_sl ?_)
  | (with_reducible refine r_noPart ?_)
  | ((with_reducible refine' r_slL ?h ?_); (case h => k_places))
  | ((with_reducible refine' r_cat ?h ?h2 ?hl ?_); (case h => kcj_m); (case h2 => kcj_m); (case hl => first | (with_reducible exact cells_len (by with_reducible assumption)) | (simp only [List.length]; rw [sizeLine_eq]; omega)))
  | ((with_reducible refine' r_eqDe ?hx ?hy ?sd ?h ?_); (case hx => kbo_bools); (case hy => kbo_bools); (case sd => exact rfl); (case h => got_up))
  | ((with_reducible refine' r_neDe ?hx ?hy ?sd ?h ?_); (case hx => kbo_bools); (case hy => kbo_bools); (case sd => exact rfl); (case h => got_up))
  | (with_reducible refine r_part ?_)
  | (with_reducible refine r_min2 ?_)
  | (with_reducible refine r_max2 ?_)
  | ((with_reducible refine' r_divmod ?c ?_); (case c => k_offL))
  | ((with_reducible refine' r_isi (c := true) ?ty ?h ?_); (case ty => kfm_turns); (case h => decide +kernel))
  | ((with_reducible refine' r_isi (c := false) ?ty ?h ?_); (case ty => kfm_turns); (case h => decide +kernel))
  | kas_types
  | intro p hp
  | (with_reducible refine r_isN ?_)
  | (with_reducible refine r_for ?_)
  | (with_reducible refine r_iList ?_)
  | (with_reducible refine r_iTup ?_)
  | (with_reducible refine r_iRng1 ?_)
  | (with_reducible refine r_iRng2 ?_)
  | (with_reducible refine r_iRng3 ?_)
  | (with_reducible refine r_lc ?_)
  | (with_reducible refine r_isB ?_)
  | (with_reducible refine r_notB ?_)
  | ((with_reducible refine' r_rep ?h ?h0 ?h1 ?hl ?_); (case h => kcj_m); (case h0 => omega); (case h1 => omega); (case hl => (simp only [List.length]; rw [sizeLine_eq]; omega)))
  | ((with_reducible refine' r_gTup ?h ?e ?_); (case h => k_places); (case e => exact rfl))
  | (with_reducible refine r_gCons ?_)
  | (with_reducible refine r_gNil ?_)
  | ((with_reducible refine' r_all ?h ?_); (case h => k_places))
  | (with_reducible refine r_bm ?_)
  | (with_reducible refine r_bm0 ?_)
  | ((with_reducible refine' r_tyl ?h ?_); (case h => kcj_m)))
local macro_rules | `(tactic| k_ownIn) => `(tactic| repeat (k_memK))

local macro_rules | `(tactic| kcj_in) => `(tactic| first | (with_reducible assumption) | omega | (simp; done) | (simp; omega))
/-- a test's proposition -/
local macro_rules | `(tactic| kpc_turns) => `(tactic| first
  | ((with_reducible refine' pu_and ?a ?b); (case a => kpc_turns); (case b => (intro hp; kpc_turns)))
  | ((with_reducible refine' pu_or ?a ?b); (case a => kpc_turns); (case b => (intro hp; kpc_turns)))
  | ((with_reducible refine' pu_not ?a); (case a => kpc_turns))
  | (refine' pu_d ?a; (case a => (intro B hB; k_ownIn; exact hB)))
  | (refine' pu_n ?a; (case a => (intro B hB; k_ownIn; exact hB)))
  | (refine' pu_nb ?a; (case a => (intro B hB; k_ownIn; exact hB)))
  | (refine' pu_b ?a; (case a => (intro B hB; k_ownIn; exact hB)))
  | (refine pu_x ?_; omega))
/-- an if, its two ways left -/
local macro_rules | `(tactic| keq_rows) => `(tactic| first
  | ((with_reducible refine' r_ifP ?T ?_ ?_); (case T => kpc_turns))
  | ((with_reducible refine' r_tifP ?T ?_ ?_); (case T => kpc_turns)))

/-- all but l stands; all stands -/
local macro_rules | `(tactic| k_subL) => `(tactic| first
  | with_reducible assumption
  | with_reducible exact Kp.refl _ _
  | with_reducible exact Same.refl _
  | (with_reducible refine Kp.upd ?_; k_subL)
  | (with_reducible refine' Kp.new ?a ?hp; (case a => k_subL); (case hp => with_reducible assumption))
  | (with_reducible refine' Same.new ?a ?hp; (case a => k_subL); (case hp => with_reducible assumption))
  | (with_reducible refine' Kp.trans ?a ?b; (case b => with_reducible assumption); (case a => k_subL))
  | (with_reducible refine' Kp.same ?a ?b; (case b => with_reducible assumption); (case a => k_subL))
  | (with_reducible refine' Same.trans ?a ?b; (case b => with_reducible assumption); (case a => k_subL))
  | (with_reducible refine Same.kp ?_; k_subL))

/-- two ways, one of which can't be -/
local macro_rules | `(tactic| k_allIn) => `(tactic| first
  | (rotate_left; (focus (intro hn; exact absurd (by kcj_in) hn)); intro hp)
  | ((focus (intro hn; exact absurd hn (by kcj_in))); intro hp))

/-- data as they stand -/
local macro_rules | `(tactic| kbo_bools) => `(tactic| first
  | exact Dp.int _
  | exact Dp.str _
  | exact Dp.bl _
  | exact Dp.non
  | (with_reducible refine' Dp.tup ?h ?a; (case h => k_places); (case a => keq_hits))
  | (with_reducible refine' Dp.lst ?h ?a; (case h => k_places); (case a => keq_hits)))
local macro_rules | `(tactic| keq_hits) => `(tactic| first
  | exact DpAll.nil
  | (with_reducible refine' DpAll.cons ?x ?y; (case x => kbo_bools); (case y => keq_hits)))
local macro_rules | `(tactic| got_up) => `(tactic| first
  | exact rfl
  | (simp only [PyData.tuple.injEq, PyData.list.injEq, List.cons.injEq, PyData.int.injEq, and_true, true_and]; omega))

/-- an if whose test lays objects -/
local macro_rules | `(tactic| kpt_turns) => `(tactic| (with_reducible first | refine r_ifS ?_ | refine r_if ?_))

/-- an item of written ints at a drawn place -/
local macro_rules | `(tactic| ksw_less) => `(tactic| first
  | ((with_reducible refine' r_ixI ?h ?h0 ?h1 ?hP (fun z => ?_)); (case h => k_places); (case h0 => omega); (case h1 => (simp only [List.length]; omega)); (case hP => simp))
  | ((with_reducible refine' r_ixIT ?h ?h0 ?h1 ?hP (fun z => ?_)); (case h => k_places); (case h0 => omega); (case h1 => (simp only [List.length]; omega)); (case hP => simp)))

namespace Pr
open PySem PySem.Spec PyProof.Rows L2 Vs
/-! ### the law's draws, as plain functions -/
def mix (c k : Int) : Int :=
  (((c + 7919 * k + 1) * 48271 % 2147483647) * (((c + 7919 * k + 1) * 48271 % 2147483647) / 1009 + 69621) % 2147483647) *
    ((((c + 7919 * k + 1) * 48271 % 2147483647) * (((c + 7919 * k + 1) * 48271 % 2147483647) / 1009 + 69621) % 2147483647) / 2003 + 40692 + k) % 2147483399
structure Wl where
  a : Int
  b : Int
  c : Int
  d : Int
abbrev Wl.o (w : Wl) : HO := .lst [.int w.a, .int w.b, .int w.c, .int w.d]
def drF (c d : Int) : Nat → Int
  | 0 => 0
  | n + 1 => drF c d n * 2147483399 + mix c (d + ((n + 1 : Nat) : Int))
def dv (w : Wl) (m : Int) : Int := if w.b = 0 ∧ 0 < w.a then w.a % m else drF w.c w.d (if 1000000 < m then 3 else 1) % m
def dn (w : Wl) (m : Int) : Wl := if w.b = 0 ∧ 0 < w.a then ⟨w.a / m, w.b, w.c, w.d⟩ else ⟨w.a, w.b, w.c, w.d + ((if 1000000 < m then 3 else 1 : Nat) : Int)⟩
theorem dv_lo (w : Wl) {m : Int} (h : 0 < m) : 0 ≤ dv w m := by
  unfold dv
  split
  · exact Int.emod_nonneg _ (by omega)
  · exact Int.emod_nonneg _ (by omega)
theorem dv_hi (w : Wl) {m : Int} (h : 0 < m) : dv w m < m := by
  unfold dv
  split
  · exact Int.emod_lt_of_pos _ h
  · exact Int.emod_lt_of_pos _ h
/-- what is drawn: a number from 0 on below m -/
def cellAt (ns : List Int) (k : Nat) : Int := ns.getD k 0
end Pr

namespace Pr
open PySem PySem.Spec PyProof.Rows L2 Vs
/-! ### values by kinds -/
inductive Kd where
  | int (i : Int) | bl (b : Bool) | non | str (s : Str) | tup (a : Addr) (xs : List V) | lst (a : Addr) (xs : List V)
def Kd.v : Kd → V
  | .int i => .int i
  | .bl b => .bl b
  | .non => .non
  | .str s => .str s
  | .tup a _ => .ref a
  | .lst a _ => .ref a
def Kd.ty : Kd → String
  | .int _ => "int"
  | .bl _ => "bool"
  | .non => "NoneType"
  | .str _ => "str"
  | .tup _ _ => "tuple"
  | .lst _ _ => "list"
def Kd.whole : Kd → Bool
  | .int _ => true
  | _ => false
/-- it stands as it says -/
def Kd.typ (H : Hp) : Kd → Prop
  | .tup a xs => H a = some (.tup xs)
  | .lst a xs => H a = some (.lst xs)
  | _ => True
def Kd.isTup : Kd → Prop
  | .lst _ _ => False
  | _ => True
/-- a tuple's items stand too -/
def Kd.ok (H : Hp) : Kd → Prop
  | .tup a xs => H a = some (.tup xs) ∧ ∀ x ∈ xs, ∃ k : Kd, x = k.v ∧ k.typ H ∧ k.isTup
  | .lst a xs => H a = some (.lst xs)
  | _ => True
theorem Kd.ok.typ {H : Hp} {k : Kd} (h : k.ok H) : k.typ H := by
  cases k with
  | tup a xs => exact h.1
  | lst a xs => exact h
  | _ => trivial
theorem Kd.tyx {K : PySem.W.Frag} {H : Hp} {k : Kd} (h : k.typ H) : TyX K H k.v (.type k.ty) := by
  cases k with
  | int i => exact .base (.int i)
  | bl b => exact .base (.bl b)
  | non => exact .base .non
  | str s => exact .base (.str s)
  | tup a xs => exact .base (.tup h)
  | lst a xs => exact .base (.lst h)
theorem Kd.typ.kp {H H' : Hp} {k : Kd} {l : Addr} {ws : List V} (h : k.typ H) (p : Kp l H H') (hl : H l = some (.lst ws)) (n : k.v ≠ .ref l) : k.typ H' := by
  cases k with
  | tup a xs => exact p a _ h (ne_of h hl (by intro z; cases z))
  | lst a xs => exact p a _ h (fun z => n (by rw [z]; rfl))
  | _ => trivial
theorem Kd.ok.kp {H H' : Hp} {k : Kd} {l : Addr} {ws : List V} (h : k.ok H) (p : Kp l H H') (hl : H l = some (.lst ws)) (n : k.v ≠ .ref l) : k.ok H' := by
  cases k with
  | tup a xs =>
    refine ⟨p a _ h.1 (ne_of h.1 hl (by intro z; cases z)), fun x hx => ?_⟩
    obtain ⟨k, e, t, i⟩ := h.2 x hx
    refine ⟨k, e, t.kp p hl ?_, i⟩
    cases k with
    | tup b ys => intro z; exact ne_of t hl (by intro z; cases z) (V.ref.inj z)
    | lst b ys => exact i.elim
    | _ => intro z; cases z
  | lst a xs => exact p a _ h (fun z => n (by rw [z]; rfl))
  | _ => trivial
theorem Kd.typ.same {H H' : Hp} {k : Kd} (h : k.typ H) (p : Same H H') : k.typ H' := by
  cases k with
  | tup a xs => exact p a _ h
  | lst a xs => exact p a _ h
  | _ => trivial
theorem Kd.ok.same {H H' : Hp} {k : Kd} (h : k.ok H) (p : Same H H') : k.ok H' := by
  cases k with
  | tup a xs =>
    refine ⟨p a _ h.1, fun x hx => ?_⟩
    obtain ⟨k, e, t, i⟩ := h.2 x hx
    exact ⟨k, e, t.same p, i⟩
  | lst a xs => exact p a _ h
  | _ => trivial
theorem kitB_int (k : Kd) : kitB k.ty "int" = some (match k with | .int _ => true | .bl _ => true | _ => false) := by
  cases k with
  | int _ => exact (by decide +kernel : kitB "int" "int" = some true)
  | bl _ => exact (by decide +kernel : kitB "bool" "int" = some true)
  | non => exact (by decide +kernel : kitB "NoneType" "int" = some false)
  | str _ => exact (by decide +kernel : kitB "str" "int" = some false)
  | tup _ _ => exact (by decide +kernel : kitB "tuple" "int" = some false)
  | lst _ _ => exact (by decide +kernel : kitB "list" "int" = some false)
theorem kitB_bool (k : Kd) : kitB k.ty "bool" = some (match k with | .bl _ => true | _ => false) := by
  cases k with
  | int _ => exact (by decide +kernel : kitB "int" "bool" = some false)
  | bl _ => exact (by decide +kernel : kitB "bool" "bool" = some true)
  | non => exact (by decide +kernel : kitB "NoneType" "bool" = some false)
  | str _ => exact (by decide +kernel : kitB "str" "bool" = some false)
  | tup _ _ => exact (by decide +kernel : kitB "tuple" "bool" = some false)
  | lst _ _ => exact (by decide +kernel : kitB "list" "bool" = some false)
theorem kitB_tuple (k : Kd) : kitB k.ty "tuple" = some (match k with | .tup _ _ => true | _ => false) := by
  cases k with
  | int _ => exact (by decide +kernel : kitB "int" "tuple" = some false)
  | bl _ => exact (by decide +kernel : kitB "bool" "tuple" = some false)
  | non => exact (by decide +kernel : kitB "NoneType" "tuple" = some false)
  | str _ => exact (by decide +kernel : kitB "str" "tuple" = some false)
  | tup _ _ => exact (by decide +kernel : kitB "tuple" "tuple" = some true)
  | lst _ _ => exact (by decide +kernel : kitB "list" "tuple" = some false)
theorem kitB_str (k : Kd) : kitB k.ty "str" = some (match k with | .str _ => true | _ => false) := by
  cases k with
  | int _ => exact (by decide +kernel : kitB "int" "str" = some false)
  | bl _ => exact (by decide +kernel : kitB "bool" "str" = some false)
  | non => exact (by decide +kernel : kitB "NoneType" "str" = some false)
  | str _ => exact (by decide +kernel : kitB "str" "str" = some true)
  | tup _ _ => exact (by decide +kernel : kitB "tuple" "str" = some false)
  | lst _ _ => exact (by decide +kernel : kitB "list" "str" = some false)
theorem kitB_list (k : Kd) : kitB k.ty "list" = some (match k with | .lst _ _ => true | _ => false) := by
  cases k with
  | int _ => exact (by decide +kernel : kitB "int" "list" = some false)
  | bl _ => exact (by decide +kernel : kitB "bool" "list" = some false)
  | non => exact (by decide +kernel : kitB "NoneType" "list" = some false)
  | str _ => exact (by decide +kernel : kitB "str" "list" = some false)
  | tup _ _ => exact (by decide +kernel : kitB "tuple" "list" = some false)
  | lst _ _ => exact (by decide +kernel : kitB "list" "list" = some true)
/-- a whole number from lo to hi -/
def btwV (lo hi : Int) : V → Bool
  | .int i => decide (lo ≤ i ∧ i ≤ hi)
  | _ => false
theorem btwV_yes {lo hi : Int} {v : V} (h : btwV lo hi v = true) : ∃ i, v = .int i ∧ lo ≤ i ∧ i ≤ hi := by
  cases v with
  | int i => exact ⟨i, rfl, (of_decide_eq_true h).1, (of_decide_eq_true h).2⟩
  | _ => cases h
def intOf (lo hi : Int) (k : Kd) : Option Int := match k with
  | .int i => if lo ≤ i ∧ i ≤ hi then some i else none
  | _ => none
abbrev zoneOf (k : Kd) : Option Int := intOf (-1439) 1439 k
theorem intOf_some {lo hi i : Int} {k : Kd} (h : intOf lo hi k = some i) : k = .int i ∧ lo ≤ i ∧ i ≤ hi := by
  unfold intOf at h
  cases k with
  | int j =>
    by_cases hj : lo ≤ j ∧ j ≤ hi
    · have e : (if lo ≤ j ∧ j ≤ hi then some j else none) = some i := h
      rw [if_pos hj] at e
      cases e
      exact ⟨rfl, hj.1, hj.2⟩
    · have e : (if lo ≤ j ∧ j ≤ hi then some j else none) = some i := h
      rw [if_neg hj] at e
      cases e
  | _ => cases h
theorem intOf_int {lo hi i : Int} (h0 : lo ≤ i) (h1 : i ≤ hi) : intOf lo hi (.int i) = some i := by
  show (if lo ≤ i ∧ i ≤ hi then some i else none) = some i
  rw [if_pos ⟨h0, h1⟩]
theorem btw_intOf {lo hi : Int} (k : Kd) : btwV lo hi k.v = (intOf lo hi k).isSome := by
  cases k with
  | int i =>
    show decide (lo ≤ i ∧ i ≤ hi) = (if lo ≤ i ∧ i ≤ hi then some i else none).isSome
    by_cases h : lo ≤ i ∧ i ≤ hi
    · rw [if_pos h, decide_eq_true h]; rfl
    · rw [if_neg h, decide_eq_false h]; rfl
  | _ => rfl
/-- quiet hours of a value: none where it is none -/
def quietOf (k : Kd) : Option (Option (Int × Int)) := match k with
  | .non => some none
  | .tup _ [.int s, .int e] => if (0 ≤ s ∧ s ≤ 1439) ∧ (0 ≤ e ∧ e ≤ 1439) ∧ s ≠ e then some (some (s, e)) else none
  | _ => none
theorem quietOf_pair {a : Addr} {s e : Int} : quietOf (.tup a [.int s, .int e]) = if (0 ≤ s ∧ s ≤ 1439) ∧ (0 ≤ e ∧ e ≤ 1439) ∧ s ≠ e then some (some (s, e)) else none := rfl
theorem quietOf_some {k : Kd} {o : Option (Int × Int)} (h : quietOf k = some o) : (k = .non ∧ o = none) ∨ ∃ a s e, k = .tup a [.int s, .int e] ∧ o = some (s, e) ∧ 0 ≤ s ∧ s ≤ 1439 ∧ 0 ≤ e ∧ e ≤ 1439 ∧ s ≠ e := by
  unfold quietOf at h
  split at h
  · cases h; exact .inl ⟨rfl, rfl⟩
  · rename_i a s e
    by_cases hc : (0 ≤ s ∧ s ≤ 1439) ∧ (0 ≤ e ∧ e ≤ 1439) ∧ s ≠ e
    · rw [if_pos hc] at h
      cases h
      exact .inr ⟨a, s, e, rfl, rfl, hc.1.1, hc.1.2, hc.2.1.1, hc.2.1.2, hc.2.2⟩
    · rw [if_neg hc] at h; cases h
  · cases h
theorem quietOf_len {a : Addr} {xs : List V} (h : xs.length ≠ 2) : quietOf (.tup a xs) = none := by
  match xs, h with
  | [], _ => rfl
  | [x], _ => cases x <;> rfl
  | [_, _], h => exact absurd rfl h
  | x :: y :: z :: r, _ => cases x <;> cases y <;> rfl
end Pr

namespace Pr
open PySem PySem.Spec PyProof.Rows L2 Vs
/-! ### quiet minutes counted -/
def qI (s e n : Int) : Int := if (n - s) % 1440 < (e - s) % 1440 then 1 else 0
def mI (s : Int) (k : Nat) (n : Nat) : Int := if ((n : Int) - s) % 1440 < (k : Int) then 1 else 0
def marksN (s : Int) (k : Nat) : List Int := (List.range 1440).map (mI s k)
abbrev marksI (s : Int) (k : Nat) : List V := (marksN s k).map V.int
theorem marksI_len (s : Int) (k : Nat) : (marksI s k).length = 1440 := by unfold marksI marksN; rw [List.length_map, List.length_map, List.length_range]
theorem marksI_at (s : Int) (k : Nat) {n : Nat} (h : n < 1440) : (marksI s k)[n]? = some (V.int (mI s k n)) := by
  unfold marksI marksN
  rw [List.getElem?_map, List.getElem?_map, List.getElem?_range h]; rfl
theorem mI_q {s e : Int} (n : Nat) : mI s ((e - s) % 1440).toNat n = qI s e n := by
  unfold mI qI
  have h : ((((e - s) % 1440).toNat : Nat) : Int) = (e - s) % 1440 := Int.toNat_of_nonneg (Int.emod_nonneg _ (by decide))
  rw [h]
theorem marksI_zero (s : Int) : marksI s 0 = (List.replicate 1440 [V.int 0]).flatten := by
  have e : (List.replicate 1440 [V.int 0]).flatten = List.replicate 1440 (V.int 0) := by
    rw [← List.flatMap_id, List.flatMap_replicate]; simp
  apply List.ext_getElem?
  intro n
  by_cases hn : n < 1440
  · rw [marksI_at s 0 hn, e, List.getElem?_replicate, if_pos hn]
    have h1 : ¬ (((n : Int) - s) % 1440 < ((0 : Nat) : Int)) := by have := Int.emod_nonneg ((n : Int) - s) (by decide : (1440 : Int) ≠ 0); omega
    unfold mI
    rw [if_neg h1]
  · rw [List.getElem?_eq_none (by rw [marksI_len]; omega), e, List.getElem?_eq_none (by rw [List.length_replicate]; omega)]
theorem marksI_set (s : Int) {k : Nat} (hk : k < 1440) : (marksI s k).set ((s + (k : Int)) % 1440).toNat (V.int 1) = marksI s (k + 1) := by
  apply List.ext_getElem?
  intro n
  by_cases hn : n < 1440
  · rw [List.getElem?_set, marksI_at s (k + 1) hn, marksI_at s k hn, marksI_len]
    have h0 : 0 ≤ (s + (k : Int)) % 1440 := Int.emod_nonneg _ (by decide)
    have h1 : (s + (k : Int)) % 1440 < 1440 := Int.emod_lt_of_pos _ (by decide)
    unfold mI
    by_cases he : ((s + (k : Int)) % 1440).toNat = n
    · rw [if_pos he, if_pos (by omega)]
      have h2 : (((n : Int) - s) % 1440 < ((k + 1 : Nat) : Int)) := by omega
      rw [if_pos h2]
    · rw [if_neg he]
      by_cases h2 : (((n : Int) - s) % 1440 < (k : Int))
      · rw [if_pos h2, if_pos (by omega)]
      · rw [if_neg h2, if_neg (by omega)]
  · rw [List.getElem?_eq_none (by rw [List.length_set, marksI_len]; omega), List.getElem?_eq_none (by rw [marksI_len]; omega)]
/-- a day's quiet minutes below one -/
def qPart (s e n : Int) : Int := if s < e then (if (if n - s < 0 then 0 else n - s) < e - s then (if n - s < 0 then 0 else n - s) else e - s) else (if n < e then n else e) + (if n - s < 0 then 0 else n - s)
/-- quiet minutes from the clock's day 0 on -/
def qF (s e t : Int) : Int := t / 1440 * ((e - s) % 1440) + qPart s e (t % 1440)
structure QOk (s e : Int) : Prop where
  s0 : 0 ≤ s
  s1 : s ≤ 1439
  e0 : 0 ≤ e
  e1 : e ≤ 1439
  ne : s ≠ e
theorem qF_step {s e : Int} (h : QOk s e) (t : Int) : qF s e (t + 1) = qF s e t + qI s e (t % 1440) := by
  obtain ⟨s0, s1, e0, e1, ne⟩ := h
  unfold qF qI
  by_cases hm : t % 1440 = 1439
  · have a : (t + 1) / 1440 = t / 1440 + 1 := by omega
    have b : (t + 1) % 1440 = 0 := by omega
    rw [a, b, hm, Int.add_mul, Int.one_mul]
    generalize t / 1440 * ((e - s) % 1440) = x
    unfold qPart
    split <;> split <;> (repeat' split) <;> omega
  · have a : (t + 1) / 1440 = t / 1440 := by omega
    have b : (t + 1) % 1440 = t % 1440 + 1 := by omega
    rw [a, b]
    generalize t / 1440 * ((e - s) % 1440) = x
    have c0 : 0 ≤ t % 1440 := by omega
    have c1 : t % 1440 < 1439 := by omega
    generalize t % 1440 = n at *
    unfold qPart
    split <;> split <;> (repeat' split) <;> omega
theorem qF_days (s e t d : Int) : qF s e (t + 1440 * d) = qF s e t + d * ((e - s) % 1440) := by
  unfold qF
  have a : (t + 1440 * d) / 1440 = t / 1440 + d := by omega
  have b : (t + 1440 * d) % 1440 = t % 1440 := by omega
  rw [a, b, Int.add_mul]
  omega
theorem marks_sum {s e : Int} (h : QOk s e) : (marksN s ((e - s) % 1440).toNat).sum = (e - s) % 1440 := by
  have g : ∀ m : Nat, m ≤ 1440 → ((List.range m).map (mI s ((e - s) % 1440).toNat)).sum = qF s e m - qF s e 0 := by
    intro m
    induction m with
    | zero => intro _; simp
    | succ k ih =>
      intro hk
      rw [List.range_succ, List.map_append, List.sum_append, ih (by omega)]
      simp only [List.map_cons, List.map_nil, List.sum_cons, List.sum_nil]
      rw [mI_q]
      have e1 := qF_step h (k : Int)
      have e2 : (k : Int) % 1440 = k := by omega
      rw [e2] at e1
      have e3 : ((k + 1 : Nat) : Int) = (k : Int) + 1 := by omega
      rw [e3, e1]
      omega
  unfold marksN
  rw [g 1440 (Nat.le_refl _)]
  have e1 := qF_days s e 0 1
  have e2 : (0 : Int) + 1440 * 1 = ((1440 : Nat) : Int) := by decide
  rw [e2] at e1
  rw [e1]
  omega
end Pr

namespace Pr
open PySem PySem.Spec PyProof.Rows L2 Vs
/-- what a told value is, as data -/
def VD (H : Hp) (v : V) (d : PyData) : Prop := (∃ i, v = .int i ∧ d = .int i) ∨ (∃ b, v = .bl b ∧ d = .bool b) ∨ ∃ p a b, v = .ref p ∧ H p = some (.tup [.int a, .int b]) ∧ d = .tuple [.int a, .int b]
theorem VD.kp {H H' : Hp} {v : V} {d : PyData} {l : Addr} {ws : List V} (h : VD H v d) (k : Kp l H H') (hl : H l = some (.lst ws)) : VD H' v d := by
  rcases h with h | h | ⟨p, a, b, rfl, h, e⟩
  · exact .inl h
  · exact .inr (.inl h)
  · exact .inr (.inr ⟨p, a, b, rfl, k p _ h (ne_of h hl (by intro z; cases z)), e⟩)
theorem VD.same {H H' : Hp} {v : V} {d : PyData} (h : VD H v d) (k : Same H H') : VD H' v d := by
  rcases h with h | h | ⟨p, a, b, rfl, h, e⟩
  · exact .inl h
  · exact .inr (.inl h)
  · exact .inr (.inr ⟨p, a, b, rfl, k p _ h, e⟩)
theorem VD.dp {K : PySem.W.Frag} {H : Hp} {v : V} {d : PyData} (h : VD H v d) : Dp K H v d ∧ SeqAt.shaped d = true := by
  rcases h with ⟨i, rfl, rfl⟩ | ⟨b, rfl, rfl⟩ | ⟨p, a, b, rfl, h, rfl⟩
  · exact ⟨.int i, rfl⟩
  · exact ⟨.bl b, rfl⟩
  · exact ⟨.tup (SqT.of h) (.cons (.int _) (.cons (.int _) .nil)), rfl⟩
/-- good: quiet hours or none, kept apart from the well -/
structure Gd (l : Addr) (H : Hp) (k : Kd) : Prop where
  ok : k.ok H
  ne : k.v ≠ .ref l
theorem Gd.kp {H H' : Hp} {k : Kd} {l : Addr} {ws : List V} (h : Gd l H k) (p : Kp l H H') (hl : H l = some (.lst ws)) : Gd l H' k := ⟨h.ok.kp p hl h.ne, h.ne⟩
theorem Gd.same {H H' : Hp} {k : Kd} {l : Addr} (h : Gd l H k) (p : Same H H') : Gd l H' k := ⟨h.ok.same p, h.ne⟩
theorem Gd.int {l : Addr} {H : Hp} {i : Int} : Gd l H (.int i) := ⟨trivial, fun z => by cases z⟩
end Pr

namespace Pr
open PySem PySem.Spec PyProof.Rows L2 He Vs
def top (i : Nat) : Stmt := PySem.Challenge.pw_bellsaway_k05_what_is_no_clock.main.body.getD i (.Pass ⟨0, 0, 0, 0⟩)
abbrev s_law_cell_at : Stmt := top 31
def d_law_cell_at : He.DefD := ⟨("_law_cell_at", none), "_law_cell_at", "_law_cell_at", defArgs s_law_cell_at, defBody s_law_cell_at, defScope s_law_cell_at, [], []⟩
abbrev s_law_mixed : Stmt := top 32
def d_law_mixed : He.DefD := ⟨("_law_mixed", none), "_law_mixed", "_law_mixed", defArgs s_law_mixed, defBody s_law_mixed, defScope s_law_mixed, [], []⟩
abbrev s_law_draw : Stmt := top 34
def d_law_draw : He.DefD := ⟨("_law_draw", none), "_law_draw", "_law_draw", defArgs s_law_draw, defBody s_law_draw, defScope s_law_draw, [], []⟩
abbrev s_law_quiet : Stmt := top 35
def d_law_quiet : He.DefD := ⟨("_law_quiet", none), "_law_quiet", "_law_quiet", defArgs s_law_quiet, defBody s_law_quiet, defScope s_law_quiet, [], []⟩
abbrev s_is_whole : Stmt := top 15
def d_is_whole : He.DefD := ⟨("is_whole", none), "is_whole", "is_whole", defArgs s_is_whole, defBody s_is_whole, defScope s_is_whole, [], []⟩
abbrev s_is_between : Stmt := top 16
def d_is_between : He.DefD := ⟨("is_between", none), "is_between", "is_between", defArgs s_is_between, defBody s_is_between, defScope s_is_between, [], []⟩
abbrev s_sure_minute : Stmt := top 22
def d_sure_minute : He.DefD := ⟨("sure_minute", none), "sure_minute", "sure_minute", defArgs s_sure_minute, defBody s_sure_minute, defScope s_sure_minute, [], []⟩
abbrev s_sure_zone : Stmt := top 20
def d_sure_zone : He.DefD := ⟨("sure_zone", none), "sure_zone", "sure_zone", defArgs s_sure_zone, defBody s_sure_zone, defScope s_sure_zone, [], []⟩
abbrev s_shown : Stmt := top 23
def d_shown : He.DefD := ⟨("shown", none), "shown", "shown", defArgs s_shown, defBody s_shown, defScope s_shown, [], []⟩
abbrev s_next_day : Stmt := top 29
def d_next_day : He.DefD := ⟨("next_day", none), "next_day", "next_day", defArgs s_next_day, defBody s_next_day, defScope s_next_day, [], []⟩
abbrev s_sure_quiet : Stmt := top 21
def d_sure_quiet : He.DefD := ⟨("sure_quiet", none), "sure_quiet", "sure_quiet", defArgs s_sure_quiet, defBody s_sure_quiet, defScope s_sure_quiet, [], []⟩
abbrev s_is_quiet : Stmt := top 24
def d_is_quiet : He.DefD := ⟨("is_quiet", none), "is_quiet", "is_quiet", defArgs s_is_quiet, defBody s_is_quiet, defScope s_is_quiet, [], []⟩
abbrev s_loud_from : Stmt := top 25
def d_loud_from : He.DefD := ⟨("loud_from", none), "loud_from", "loud_from", defArgs s_loud_from, defBody s_loud_from, defScope s_loud_from, [], []⟩
abbrev s_quiet_ahead : Stmt := top 26
def d_quiet_ahead : He.DefD := ⟨("quiet_ahead", none), "quiet_ahead", "quiet_ahead", defArgs s_quiet_ahead, defBody s_quiet_ahead, defScope s_quiet_ahead, [], []⟩
abbrev s_quiet_count : Stmt := top 27
def d_quiet_count : He.DefD := ⟨("quiet_count", none), "quiet_count", "quiet_count", defArgs s_quiet_count, defBody s_quiet_count, defScope s_quiet_count, [], []⟩
abbrev s_next_hour : Stmt := top 28
def d_next_hour : He.DefD := ⟨("next_hour", none), "next_hour", "next_hour", defArgs s_next_hour, defBody s_next_hour, defScope s_next_hour, [], []⟩
abbrev s_law_asked : Stmt := top 39
def d_law_asked : He.DefD := ⟨("_law_asked", none), "_law_asked", "_law_asked", defArgs s_law_asked, defBody s_law_asked, defScope s_law_asked, [], []⟩
abbrev s_law_bad_zone : Stmt := top 36
def d_law_bad_zone : He.DefD := ⟨("_law_bad_zone", none), "_law_bad_zone", "_law_bad_zone", defArgs s_law_bad_zone, defBody s_law_bad_zone, defScope s_law_bad_zone, [], []⟩
abbrev s_law_refused : Stmt := top 40
def d_law_refused : He.DefD := ⟨("_law_refused", none), "_law_refused", "_law_refused", defArgs s_law_refused, defBody s_law_refused, defScope s_law_refused, [], []⟩
abbrev s_law_bad_quiet : Stmt := top 37
def d_law_bad_quiet : He.DefD := ⟨("_law_bad_quiet", none), "_law_bad_quiet", "_law_bad_quiet", defArgs s_law_bad_quiet, defBody s_law_bad_quiet, defScope s_law_bad_quiet, [], []⟩
abbrev s_law_bad_minute : Stmt := top 38
def d_law_bad_minute : He.DefD := ⟨("_law_bad_minute", none), "_law_bad_minute", "_law_bad_minute", defArgs s_law_bad_minute, defBody s_law_bad_minute, defScope s_law_bad_minute, [], []⟩
abbrev s_law_right : Stmt := top 41
def d_law_right : He.DefD := ⟨("_law_right", none), "_law_right", "_law_right", defArgs s_law_right, defBody s_law_right, defScope s_law_right, [], []⟩
abbrev s_law_well : Stmt := top 33
def d_law_well : He.DefD := ⟨("_law_well", none), "_law_well", "_law_well", defArgs s_law_well, defBody s_law_well, defScope s_law_well, [], []⟩
abbrev s_law : Stmt := top 42
def d_law : He.DefD := ⟨("law", none), "law", "law", defArgs s_law, defBody s_law, defScope s_law, [], []⟩
def fn : List He.DefD := [d_law_cell_at, d_law_mixed, d_law_draw, d_law_quiet, d_is_whole, d_is_between, d_sure_minute, d_sure_zone, d_shown, d_next_day, d_sure_quiet, d_is_quiet, d_loud_from, d_quiet_ahead, d_quiet_count, d_next_hour, d_law_asked, d_law_bad_zone, d_law_refused, d_law_bad_quiet, d_law_bad_minute, d_law_right, d_law_well, d_law]
def fa : List He.Fa := [.free "len", .glo "_law_mixed", .free "int", .free "range", .glo "_law_draw", .free "bool", .free "isinstance", .glo "is_whole", .glo "NoClock", .glo "is_between", .exc "NoClock", .int "DAY" 1440, .glo "sure_zone", .free "divmod", .glo "shown", .glo "sure_minute", .free "all", .free "tuple", .glo "sure_quiet", .glo "is_quiet", .free "max", .free "min", .glo "quiet_ahead", .int "HOUR" 60, .glo "loud_from", .glo "next_day", .glo "next_hour", .glo "quiet_count", .glo "Backward", .glo "BellError", .glo "Fallen", .glo "NoBook", .glo "NoFit", .glo "NoHappening", .glo "NoNumber", .glo "NoRoad", .glo "NoRow", .glo "NoText", .glo "NoTime", .glo "NoWish", .glo "_law_asked", .free "ValueError", .glo "_law_bad_minute", .glo "_law_bad_quiet", .glo "_law_bad_zone", .glo "_law_quiet", .glo "_law_refused", .glo "_law_cell_at", .glo "_law_right", .glo "_law_well", .glo "law"]
def xf_law_refused (K : PySem.W.Frag) : Bool := excB K (ga K "NoClock") && (decide (PySem.W.exmOne K (.ref (ga K "NoClock")) (.ref (ga K "BellError")) = some true) &&
  (decide (PySem.W.kitAny K (.ref (ga K "NoClock")) [.ref (ga K "Backward"), .ref (ga K "Fallen"), .ref (ga K "NoBook"), .ref (ga K "NoFit"), .ref (ga K "NoHappening"), .ref (ga K "NoNumber"), .ref (ga K "NoRoad"), .ref (ga K "NoRow")] = some false) &&
  (decide (PySem.W.kitAny K (.ref (ga K "NoClock")) [.ref (ga K "NoText"), .ref (ga K "NoTime"), .ref (ga K "NoWish")] = some false) &&
  (decide (PySem.W.kitOne K (.ref (ga K "NoClock")) (.ref (ga K "NoClock")) = some true) && decide (PySem.W.kitOne K (.ref (ga K "NoClock")) (.type "ValueError") = some true)))))
def xs : List (PySem.W.Frag → Bool) := [xf_law_refused]
/-! ### what the head tells -/
abbrev AlM : Type := AlD × Bool
def obsM (n : Nat) (g : Addr → Option Obj) : AlM := (obsDG n fa fn g, xs.all fun f => f (frG g (asD g n)))
def hookM (n : Nat) : PySem.W.Hook where
  α := AlM
  obs := fun s => obsM n s.heap.get?
  val := fun _ => (valD fn, true)
  says := fun _ h => ∃ K : PySem.W.Frag, K.In h ∧ (SaysD fa fn K ∧ (xs.all fun f => f K) = true)
  of := fun _ _ e => ⟨_, frG_in, congrArg (fun z : AlM => z.1) e, congrArg (fun z : AlM => z.2) e⟩
  keeps := fun _ _ _ ⟨K, hK, c⟩ k => ⟨K, PySem.W.Frag.In.keeps hK k, c⟩
structure Env (K : PySem.W.Frag) (mg : Str → Option Value) : Prop where
  c : SaysD fa fn K
  g : ∃ h : Heap, K.In h ∧ h.Ns mainGlobals mg
  xa : (xs.all fun f => f K) = true
theorem Env.glo {K : PySem.W.Frag} {mg : Str → Option Value} (Z : Env K mg) (i : Nat) {x : Str} (h : fa[i]? = some (.glo x)) : mg x = some (.ref (ga K x)) := let ⟨_, X, G⟩ := Z.g; glo_ok X G (Z.c.fact i h)
theorem Env.free {K : PySem.W.Frag} {mg : Str → Option Value} (Z : Env K mg) (i : Nat) {x : Str} (h : fa[i]? = some (.free x)) : mg x = none := let ⟨_, X, G⟩ := Z.g; free_ok X G (Z.c.fact i h)
theorem Env.int {K : PySem.W.Frag} {mg : Str → Option Value} (Z : Env K mg) (j : Nat) {x : Str} {i : Int} (h : fa[j]? = some (.int x i)) : ∃ t, mg x = some (.int i t) := let ⟨_, X, G⟩ := Z.g; int_ok X G (Z.c.fact j h)
theorem Env.str {K : PySem.W.Frag} {mg : Str → Option Value} (Z : Env K mg) (j : Nat) {x z : Str} (h : fa[j]? = some (.str x z)) : ∃ t, mg x = some (.str z t) := let ⟨_, X, G⟩ := Z.g; str_ok X G (Z.c.fact j h)
theorem Env.x {K : PySem.W.Frag} {mg : Str → Option Value} (Z : Env K mg) (i : Nat) {f : PySem.W.Frag → Bool} (h : xs[i]? = some f) : f K = true := List.all_eq_true.mp Z.xa f (List.mem_of_getElem? h)

/-! ### _law_cell_at -/
def sp_law_cell_at (K : PySem.W.Frag) : Sp := fun vs H Q _ => ∃ (l : Addr) (ns : List Int) (j : Nat), vs = [.ref l, .int (j : Nat)] ∧ SqL K H l (ns.map V.int) ∧ Q (.int (cellAt ns j)) H
theorem sp_cell_use {K : PySem.W.Frag} {H : Hp} {Q : VK} {E : XK} {l : Addr} {ns : List Int} {i : Int} (hs : SqL K H l (ns.map V.int)) (h0 : 0 ≤ i) (q : Q (.int (cellAt ns i.toNat)) H) : sp_law_cell_at K [.ref l, .int i] H Q E :=
  ⟨l, ns, i.toNat, by rw [Int.toNat_of_nonneg h0], hs, q⟩
local macro_rules | `(tactic| kas_types) => `(tactic| ((with_reducible refine' sp_cell_use ?h ?h0 ?_); (case h => k_places); (case h0 => omega)))
def t_law_cell_at (K : PySem.W.Frag) : TS :=
  (tSeq (tIfS (tTest (tOp (rI0 fun i j => .bl (decide (i < j))) (tVar 1) (tCB (rLen K) (tCons (tVar 0) tNil)))) (tRet (tOp (rIx K) (tVar 0) (tVar 1))) tNext)
    (tRet (tC (.int 0))))
theorem run_law_cell_at {K : PySem.W.Frag} {vs : List V} {H : Hp} {Q : VK} {E : XK} (h : sp_law_cell_at K vs H Q E) : t_law_cell_at K (Ends.mk (fun _ H' => Q .non H') Q (fun _ _ => False) (fun _ _ => False)) (start ["_law_script", "_law_k"] vs) H := by
  obtain ⟨l, ns, j, rfl, hs, q⟩ := h
  unfold t_law_cell_at
  k_ownIn
  keq_rows
  · intro hj
    rw [List.length_map] at hj
    have hg : (ns.map V.int)[j]? = some (V.int (cellAt ns j)) := by
      have hj' : j < ns.length := by omega
      unfold cellAt
      rw [List.getElem?_map, List.getD_eq_getElem?_getD, List.getElem?_eq_getElem hj']
      rfl
    k_ownIn
    exact r_ixL hs (atI_nat hg) q
  · intro hj
    rw [List.length_map] at hj
    have e : cellAt ns j = 0 := by
      unfold cellAt
      rw [List.getD_eq_getElem?_getD, List.getElem?_eq_none (by omega)]
      rfl
    rw [e] at q
    k_ownIn
    exact q
theorem len_law_cell_at {K : PySem.W.Frag} {vs : List V} {H : Hp} {Q : VK} {E : XK} (h : sp_law_cell_at K vs H Q E) : vs.length = 2 := by
  first | (obtain ⟨rfl, _⟩ := h; rfl) | (obtain ⟨_, rfl, _⟩ := h; rfl) | (obtain ⟨_, _, rfl, _⟩ := h; rfl) | (obtain ⟨_, _, _, rfl, _⟩ := h; rfl) | (obtain ⟨_, _, _, _, rfl, _⟩ := h; rfl) | (obtain ⟨_, _, _, _, _, rfl, _⟩ := h; rfl) | (obtain ⟨_, _, _, _, _, _, rfl, _⟩ := h; rfl) | (obtain ⟨_, _, _, _, _, _, _, rfl, _⟩ := h; rfl) | (obtain ⟨_, _, _, _, _, _, _, _, rfl, _⟩ := h; rfl) | (obtain ⟨_, _, _, _, _, _, _, _, _, rfl, _⟩ := h; rfl) | (obtain ⟨_, _, _, _, _, _, _, _, _, _, rfl, _⟩ := h; rfl) | (obtain ⟨_, _, _, _, _, _, _, _, _, _, _, rfl, _⟩ := h; rfl) | (obtain ⟨_, _, _, _, _, _, _, _, _, _, _, _, rfl, _⟩ := h; rfl) | (obtain ⟨_, _, _, _, _, _, _, _, _, _, _, _, _, rfl, _⟩ := h; rfl)
/-! ### _law_mixed -/
def sp_law_mixed (K : PySem.W.Frag) : Sp := fun vs H Q _ => ∃ (c k : Int), vs = [.int c, .int k] ∧ Q (.int (mix c k)) H
theorem sp_mixed_use {K : PySem.W.Frag} {H : Hp} {Q : VK} {E : XK} {c k : Int} (q : Q (.int (mix c k)) H) : sp_law_mixed K [.int c, .int k] H Q E := ⟨_, _, rfl, q⟩
local macro_rules | `(tactic| kas_types) => `(tactic| (with_reducible refine sp_mixed_use ?_))
def t_law_mixed (K : PySem.W.Frag) : TS :=
  (tSeq (tAsg (tOp (rI (fun _ j => 0 < j) fun i j => .int (i % j)) (tOp (rI CMul fun i j => .int (i * j)) (tOp (rI0 fun i j => .int (i + j)) (tOp (rI0 fun i j => .int (i + j)) (tVar 0) (tOp (rI CMul fun i j => .int (i * j)) (tC (.int 7919)) (tVar 1))) (tC (.int 1))) (tC (.int 48271))) (tC (.int 2147483647))) (gName 2))
    (tSeq (tAsg (tOp (rI (fun _ j => 0 < j) fun i j => .int (i % j)) (tOp (rI CMul fun i j => .int (i * j)) (tVar 2) (tOp (rI0 fun i j => .int (i + j)) (tOp (rI CDiv fun i j => .int (i / j)) (tVar 2) (tC (.int 1009))) (tC (.int 69621)))) (tC (.int 2147483647))) (gName 2))
    (tRet (tOp (rI (fun _ j => 0 < j) fun i j => .int (i % j)) (tOp (rI CMul fun i j => .int (i * j)) (tVar 2) (tOp (rI0 fun i j => .int (i + j)) (tOp (rI0 fun i j => .int (i + j)) (tOp (rI CDiv fun i j => .int (i / j)) (tVar 2) (tC (.int 2003))) (tC (.int 40692))) (tVar 1))) (tC (.int 2147483399))))))
theorem run_law_mixed {K : PySem.W.Frag} {vs : List V} {H : Hp} {Q : VK} {E : XK} (h : sp_law_mixed K vs H Q E) : t_law_mixed K (Ends.mk (fun _ H' => Q .non H') Q (fun _ _ => False) (fun _ _ => False)) (start ["_law_cell", "_law_k", "_law_number"] vs) H := by
  obtain ⟨c, k, rfl, q⟩ := h
  unfold t_law_mixed
  k_ownIn
  exact q
theorem len_law_mixed {K : PySem.W.Frag} {vs : List V} {H : Hp} {Q : VK} {E : XK} (h : sp_law_mixed K vs H Q E) : vs.length = 2 := by
  first | (obtain ⟨rfl, _⟩ := h; rfl) | (obtain ⟨_, rfl, _⟩ := h; rfl) | (obtain ⟨_, _, rfl, _⟩ := h; rfl) | (obtain ⟨_, _, _, rfl, _⟩ := h; rfl) | (obtain ⟨_, _, _, _, rfl, _⟩ := h; rfl) | (obtain ⟨_, _, _, _, _, rfl, _⟩ := h; rfl) | (obtain ⟨_, _, _, _, _, _, rfl, _⟩ := h; rfl) | (obtain ⟨_, _, _, _, _, _, _, rfl, _⟩ := h; rfl) | (obtain ⟨_, _, _, _, _, _, _, _, rfl, _⟩ := h; rfl) | (obtain ⟨_, _, _, _, _, _, _, _, _, rfl, _⟩ := h; rfl) | (obtain ⟨_, _, _, _, _, _, _, _, _, _, rfl, _⟩ := h; rfl) | (obtain ⟨_, _, _, _, _, _, _, _, _, _, _, rfl, _⟩ := h; rfl) | (obtain ⟨_, _, _, _, _, _, _, _, _, _, _, _, rfl, _⟩ := h; rfl) | (obtain ⟨_, _, _, _, _, _, _, _, _, _, _, _, _, rfl, _⟩ := h; rfl)
/-! ### _law_draw -/
def sp_law_draw (K : PySem.W.Frag) : Sp := fun vs H Q _ => ∃ (l : Addr) (w : Wl) (m : Int), vs = [.ref l, .int m] ∧ H l = some w.o ∧ 0 < m ∧ m ≤ 1000000000000000000 ∧ Q (.int (dv w m)) (upd H l (dn w m).o)
theorem sp_draw_any {K : PySem.W.Frag} {H : Hp} {Q : VK} {E : XK} {l : Addr} {w : Wl} {m : Int} (h : H l = some w.o) (h0 : 0 < m) (h1 : m ≤ 1000000000000000000) (q : ∀ v w', 0 ≤ v → v < m → Q (.int v) (upd H l (Wl.o w'))) :
    sp_law_draw K [.ref l, .int m] H Q E := ⟨l, w, m, rfl, h, h0, h1, q _ _ (dv_lo w h0) (dv_hi w h0)⟩
/-- a draw, whatever comes -/
local macro_rules | `(tactic| kat_tups) => `(tactic| ((with_reducible refine' sp_draw_any ?h ?h0 ?h1 (fun v w' l0 l1 => ?_)); (case h => kcj_m); (case h0 => omega); (case h1 => omega)))
local macro_rules | `(tactic| kas_types) => `(tactic| kat_tups)
def t_law_draw (K : PySem.W.Frag) : TS :=
  (tSeq (tIfS (tAnd (tTest (tOp rEq (tOp (rIx K) (tVar 0) (tC (.int 1))) (tC (.int 0)))) (tTest (tOp (rI0 fun i j => .bl (decide (j < i))) (tOp (rIx K) (tVar 0) (tC (.int 0))) (tC (.int 0))))) (tSeq (tAsg (tOp (rI (fun _ j => 0 < j) fun i j => .int (i % j)) (tOp (rIx K) (tVar 0) (tC (.int 0))) (tVar 1)) (gName 2))
    (tSeq (tAsg (tOp (rI CDivW fun i j => .int (i / j)) (tOp (rIx K) (tVar 0) (tC (.int 0))) (tVar 1)) (gSub (tVar 0) (tC (.int 0)) rSetL))
    (tRet (tVar 2)))) tNext)
    (tSeq (tAsg (tC (.int 0)) (gName 2))
    (tSeq (tFor (iRng1 (tCons (tOp (rI0 fun i j => .int (i + j)) (tC (.int 1)) (tOp (rI CMul fun i j => .int (i * j)) (tC (.int 2)) (tCB rInt1 (tCons (tOp (rI0 fun i j => .bl (decide (j < i))) (tVar 1) (tC (.int 1000000))) tNil)))) tNil)) (gName 3)
    (tSeq (tAsg (tOp (rI0 fun i j => .int (i + j)) (tOp (rIx K) (tVar 0) (tC (.int 3))) (tC (.int 1))) (gSub (tVar 0) (tC (.int 3)) rSetL))
    (tAsg (tOp (rI0 fun i j => .int (i + j)) (tOp (rI CMul fun i j => .int (i * j)) (tVar 2) (tC (.int 2147483399))) (tCall (sp_law_mixed K) [] E0 (tCons (tOp (rIx K) (tVar 0) (tC (.int 2))) (tCons (tOp (rIx K) (tVar 0) (tC (.int 3))) tNil)))) (gName 2))))
    (tRet (tOp (rI (fun _ j => 0 < j) fun i j => .int (i % j)) (tVar 2) (tVar 1))))))
theorem run_law_draw {K : PySem.W.Frag} {vs : List V} {H : Hp} {Q : VK} {E : XK} (h : sp_law_draw K vs H Q E) : t_law_draw K (Ends.mk (fun _ H' => Q .non H') Q (fun _ _ => False) (fun _ _ => False)) (start ["_law_well_here", "_law_most", "_law_found", "_law_turn"] vs) H := by
  obtain ⟨l, w, m, rfl, hl, h0, h1, q⟩ := h
  unfold t_law_draw
  k_ownIn
  keq_rows
  · intro hc
    k_ownIn
    have e1 : dv w m = w.a % m := by unfold dv; rw [if_pos hc]
    have e2 : (dn w m).o = .lst [.int (w.a / m), .int w.b, .int w.c, .int w.d] := by unfold dn; rw [if_pos hc]
    rw [e1, e2] at q
    exact q
  · intro hc
    k_ownIn
    have en : (1 + 2 * if decide (1000000 < m) = true then (1 : Int) else 0).toNat = if 1000000 < m then 3 else 1 := by
      by_cases hm : 1000000 < m
      · rw [if_pos hm, if_pos (decide_eq_true hm)]; rfl
      · rw [if_neg hm, if_neg (fun z => hm (of_decide_eq_true z))]; rfl
    refine r_loopR1 (fun i σ' H' => ∃ tv : Option V, σ' = [some (.ref l), some (.int m), some (.int (drF w.c w.d i)), tv] ∧ H' = upd H l (.lst [.int w.a, .int w.b, .int w.c, .int (w.d + (i : Int))]))
      (by split <;> omega) ⟨none, rfl, ?_⟩ ?_ ?_
    · have e : w.d + ((0 : Nat) : Int) = w.d := by omega
      rw [e]
      exact (upd_id hl).symm
    · rintro i σ' H' N hi ⟨tv, rfl, rfl⟩ hN
      k_ownIn
      refine hN _ _ ?_
      have e : w.d + (i : Int) + 1 = w.d + ((i + 1 : Nat) : Int) := by omega
      rw [upd2, e]
      exact ⟨_, rfl, rfl⟩
    · rintro σ' H' ⟨tv, rfl, rfl⟩
      k_ownIn
      have e1 : dv w m = drF w.c w.d (if 1000000 < m then 3 else 1) % m := by unfold dv; rw [if_neg hc]
      have e2 : (dn w m).o = .lst [.int w.a, .int w.b, .int w.c, .int (w.d + ((if 1000000 < m then 3 else 1 : Nat) : Int))] := by unfold dn; rw [if_neg hc]
      rw [e1, e2] at q
      rw [en]
      exact q
theorem len_law_draw {K : PySem.W.Frag} {vs : List V} {H : Hp} {Q : VK} {E : XK} (h : sp_law_draw K vs H Q E) : vs.length = 2 := by
  first | (obtain ⟨rfl, _⟩ := h; rfl) | (obtain ⟨_, rfl, _⟩ := h; rfl) | (obtain ⟨_, _, rfl, _⟩ := h; rfl) | (obtain ⟨_, _, _, rfl, _⟩ := h; rfl) | (obtain ⟨_, _, _, _, rfl, _⟩ := h; rfl) | (obtain ⟨_, _, _, _, _, rfl, _⟩ := h; rfl) | (obtain ⟨_, _, _, _, _, _, rfl, _⟩ := h; rfl) | (obtain ⟨_, _, _, _, _, _, _, rfl, _⟩ := h; rfl) | (obtain ⟨_, _, _, _, _, _, _, _, rfl, _⟩ := h; rfl) | (obtain ⟨_, _, _, _, _, _, _, _, _, rfl, _⟩ := h; rfl) | (obtain ⟨_, _, _, _, _, _, _, _, _, _, rfl, _⟩ := h; rfl) | (obtain ⟨_, _, _, _, _, _, _, _, _, _, _, rfl, _⟩ := h; rfl) | (obtain ⟨_, _, _, _, _, _, _, _, _, _, _, _, rfl, _⟩ := h; rfl) | (obtain ⟨_, _, _, _, _, _, _, _, _, _, _, _, _, rfl, _⟩ := h; rfl)
/-! ### _law_quiet -/
def sp_law_quiet (K : PySem.W.Frag) : Sp := fun vs H Q _ => ∃ (l : Addr) (w : Wl), vs = [.ref l] ∧ H l = some w.o ∧ ∀ (k : Kd) (o : Option (Int × Int)) (w' : Wl) (H' : Hp), quietOf k = some o → Gd l H' k → H' l = some w'.o → Kp l H H' → Q k.v H'
theorem sp_quiet_use {K : PySem.W.Frag} {H : Hp} {Q : VK} {E : XK} {l : Addr} {w : Wl} (h : H l = some w.o) (q : ∀ (k : Kd) (o : Option (Int × Int)) (w' : Wl) (H' : Hp), quietOf k = some o → Gd l H' k → H' l = some w'.o → Kp l H H' → Q k.v H') : sp_law_quiet K [.ref l] H Q E := ⟨_, _, rfl, h, q⟩
local macro_rules | `(tactic| kas_types) => `(tactic| ((with_reducible refine' sp_quiet_use ?h (fun k o w' H' hk gk hl kp => ?_)); (case h => kcj_m)))
def t_law_quiet (K : PySem.W.Frag) : TS :=
  (tSeq (tAsg (tOp (rIx K) (tLst (tCons (tC (.int 0)) (tCons (tC (.int 1439)) (tCons (tCall (sp_law_draw K) [] E0 (tCons (tVar 0) (tCons (tC (.int 1440)) tNil))) tNil)))) (tCall (sp_law_draw K) [] E0 (tCons (tVar 0) (tCons (tC (.int 3)) tNil)))) (gName 1))
    (tSeq (tAsg (tTup (tCons (tVar 1) (tCons (tOp (rI (fun _ j => 0 < j) fun i j => .int (i % j)) (tOp (rI0 fun i j => .int (i + j)) (tOp (rI0 fun i j => .int (i + j)) (tVar 1) (tC (.int 1))) (tCall (sp_law_draw K) [] E0 (tCons (tVar 0) (tCons (tC (.int 1439)) tNil)))) (tC (.int 1440))) tNil))) (gName 2))
    (tRet (tOp (rIx K) (tLst (tCons (tVar 2) (tCons (tVar 2) (tCons (tVar 2) (tCons (tC .non) tNil))))) (tCall (sp_law_draw K) [] E0 (tCons (tVar 0) (tCons (tC (.int 4)) tNil)))))))
theorem run_law_quiet {K : PySem.W.Frag} {vs : List V} {H : Hp} {Q : VK} {E : XK} (h : sp_law_quiet K vs H Q E) : t_law_quiet K (Ends.mk (fun _ H' => Q .non H') Q (fun _ _ => False) (fun _ _ => False)) (start ["_law_well_here", "_law_start", "_law_quiet_here"] vs) H := by
  obtain ⟨l, w, rfl, hl, q⟩ := h
  unfold t_law_quiet
  k_ownIn
  refine r_ixA (fun x => ∃ z : Int, x = .int z ∧ 0 ≤ z ∧ z ≤ 1439) (by k_places) (by omega) (by simp only [List.length]; omega) ?_ ?_
  · intro x hx
    simp only [List.mem_cons, List.not_mem_nil, or_false] at hx
    rcases hx with rfl | rfl | rfl <;> exact ⟨_, rfl, by omega, by omega⟩
  · rintro x ⟨s, rfl, s0, s1⟩
    k_ownIn
    rename_i f wf f0 f1 t ht p hp i wi i0 i1
    refine r_ixA (fun x => x = .ref t ∨ x = .non) (by k_places) (by omega) (by simp only [List.length]; omega) ?_ ?_
    · intro x hx
      simp only [List.mem_cons, List.not_mem_nil, or_false] at hx
      rcases hx with rfl | rfl | rfl | rfl <;> simp
    · rintro x (rfl | rfl)
      · have hq : quietOf (.tup t [.int s, .int ((s + 1 + f) % 1440)]) = some (some (s, (s + 1 + f) % 1440)) := by
          rw [quietOf_pair, if_pos ⟨⟨s0, s1⟩, ⟨by omega, by omega⟩, by omega⟩]
        have hT : (upd (upd (upd (upd (upd (upd (upd H l w.o) l w.o) l w.o) l w.o) l w.o) l w.o) l w.o) l = some w.o := upd_same
        have ntl : t ≠ l := by k_clsL
        refine q (.tup t [.int s, .int ((s + 1 + f) % 1440)]) _ _ _ hq ⟨⟨by kcj_m, fun x hx => ?_⟩, fun z => ntl (V.ref.inj z)⟩ (by kcj_m) (by k_subL)
        simp only [List.mem_cons, List.not_mem_nil, or_false] at hx
        rcases hx with rfl | rfl
        · exact ⟨.int _, rfl, trivial, trivial⟩
        · exact ⟨.int _, rfl, trivial, trivial⟩
      · exact q .non none _ _ rfl ⟨trivial, fun z => by cases z⟩ (by kcj_m) (by k_subL)
theorem len_law_quiet {K : PySem.W.Frag} {vs : List V} {H : Hp} {Q : VK} {E : XK} (h : sp_law_quiet K vs H Q E) : vs.length = 1 := by
  first | (obtain ⟨rfl, _⟩ := h; rfl) | (obtain ⟨_, rfl, _⟩ := h; rfl) | (obtain ⟨_, _, rfl, _⟩ := h; rfl) | (obtain ⟨_, _, _, rfl, _⟩ := h; rfl) | (obtain ⟨_, _, _, _, rfl, _⟩ := h; rfl) | (obtain ⟨_, _, _, _, _, rfl, _⟩ := h; rfl) | (obtain ⟨_, _, _, _, _, _, rfl, _⟩ := h; rfl) | (obtain ⟨_, _, _, _, _, _, _, rfl, _⟩ := h; rfl) | (obtain ⟨_, _, _, _, _, _, _, _, rfl, _⟩ := h; rfl) | (obtain ⟨_, _, _, _, _, _, _, _, _, rfl, _⟩ := h; rfl) | (obtain ⟨_, _, _, _, _, _, _, _, _, _, rfl, _⟩ := h; rfl) | (obtain ⟨_, _, _, _, _, _, _, _, _, _, _, rfl, _⟩ := h; rfl) | (obtain ⟨_, _, _, _, _, _, _, _, _, _, _, _, rfl, _⟩ := h; rfl) | (obtain ⟨_, _, _, _, _, _, _, _, _, _, _, _, _, rfl, _⟩ := h; rfl)
/-! ### is_whole -/
def sp_is_whole (K : PySem.W.Frag) : Sp := fun vs H Q _ => ∃ (k : Kd), vs = [k.v] ∧ k.typ H ∧ Q (.bl (k.whole)) H
theorem sp_whole_kd {K : PySem.W.Frag} {H : Hp} {Q : VK} {E : XK} (k : Kd) (h : k.typ H) (q : Q (.bl (k.whole)) H) : sp_is_whole K [k.v] H Q E := ⟨k, rfl, h, q⟩
def t_is_whole (K : PySem.W.Frag) : TS :=
  (tRet (tAndV (tCB (rIsi K) (tCons (tVar 0) (tCons (tC (.ty "int")) tNil))) (tNotV (tCB (rIsi K) (tCons (tVar 0) (tCons (tC (.ty "bool")) tNil))))))
theorem run_is_whole {K : PySem.W.Frag} {vs : List V} {H : Hp} {Q : VK} {E : XK} (h : sp_is_whole K vs H Q E) : t_is_whole K (Ends.mk (fun _ H' => Q .non H') Q (fun _ _ => False) (fun _ _ => False)) (start ["thing"] vs) H := by
  obtain ⟨k, rfl, ty, q⟩ := h
  unfold t_is_whole
  k_ownIn
  refine r_isi (Kd.tyx ty) (kitB_int k) ?_
  cases k with
  | _ =>
    k_ownIn
    exact q
theorem len_is_whole {K : PySem.W.Frag} {vs : List V} {H : Hp} {Q : VK} {E : XK} (h : sp_is_whole K vs H Q E) : vs.length = 1 := by
  first | (obtain ⟨rfl, _⟩ := h; rfl) | (obtain ⟨_, rfl, _⟩ := h; rfl) | (obtain ⟨_, _, rfl, _⟩ := h; rfl) | (obtain ⟨_, _, _, rfl, _⟩ := h; rfl) | (obtain ⟨_, _, _, _, rfl, _⟩ := h; rfl) | (obtain ⟨_, _, _, _, _, rfl, _⟩ := h; rfl) | (obtain ⟨_, _, _, _, _, _, rfl, _⟩ := h; rfl) | (obtain ⟨_, _, _, _, _, _, _, rfl, _⟩ := h; rfl) | (obtain ⟨_, _, _, _, _, _, _, _, rfl, _⟩ := h; rfl) | (obtain ⟨_, _, _, _, _, _, _, _, _, rfl, _⟩ := h; rfl) | (obtain ⟨_, _, _, _, _, _, _, _, _, _, rfl, _⟩ := h; rfl) | (obtain ⟨_, _, _, _, _, _, _, _, _, _, _, rfl, _⟩ := h; rfl) | (obtain ⟨_, _, _, _, _, _, _, _, _, _, _, _, rfl, _⟩ := h; rfl) | (obtain ⟨_, _, _, _, _, _, _, _, _, _, _, _, _, rfl, _⟩ := h; rfl)
/-! ### is_between -/
def sp_is_between (K : PySem.W.Frag) : Sp := fun vs H Q _ => ∃ (k : Kd) (lo hi : Int), vs = [k.v, .int lo, .int hi] ∧ k.typ H ∧ Q (.bl (btwV lo hi k.v)) H
theorem sp_between_kd {K : PySem.W.Frag} {H : Hp} {Q : VK} {E : XK} {lo hi : Int} (k : Kd) (h : k.typ H) (q : Q (.bl (btwV lo hi k.v)) H) : sp_is_between K [k.v, .int lo, .int hi] H Q E := ⟨k, lo, hi, rfl, h, q⟩
def t_is_between (K : PySem.W.Frag) : TS :=
  (tRet (tAndV (tCall (sp_is_whole K) [] E0 (tCons (tVar 0) tNil)) (tChain (rI0 fun i j => .bl (decide (i ≤ j))) (rI0 fun i j => .bl (decide (i ≤ j))) (tVar 1) (tVar 0) (tVar 2))))
theorem run_is_between {K : PySem.W.Frag} {vs : List V} {H : Hp} {Q : VK} {E : XK} (h : sp_is_between K vs H Q E) : t_is_between K (Ends.mk (fun _ H' => Q .non H') Q (fun _ _ => False) (fun _ _ => False)) (start ["thing", "low", "high"] vs) H := by
  obtain ⟨k, lo, hi, rfl, ty, q⟩ := h
  unfold t_is_between
  k_ownIn
  refine sp_whole_kd k ty ?_
  cases k with
  | int i =>
    dsimp only [Kd.whole, Kd.v]
    dsimp only [Kd.v] at q
    k_ownIn
    refine ite_d (fun h1 => ?_) (fun h1 => ?_)
    · k_ownIn
      refine q_bl ?_ q
      show decide (lo ≤ i ∧ i ≤ hi) = decide (i ≤ hi)
      simp [h1]
    · refine q_bl ?_ q
      show decide (lo ≤ i ∧ i ≤ hi) = false
      simp [h1]
  | _ =>
    dsimp only [Kd.whole]
    k_ownIn
    exact q
theorem len_is_between {K : PySem.W.Frag} {vs : List V} {H : Hp} {Q : VK} {E : XK} (h : sp_is_between K vs H Q E) : vs.length = 3 := by
  first | (obtain ⟨rfl, _⟩ := h; rfl) | (obtain ⟨_, rfl, _⟩ := h; rfl) | (obtain ⟨_, _, rfl, _⟩ := h; rfl) | (obtain ⟨_, _, _, rfl, _⟩ := h; rfl) | (obtain ⟨_, _, _, _, rfl, _⟩ := h; rfl) | (obtain ⟨_, _, _, _, _, rfl, _⟩ := h; rfl) | (obtain ⟨_, _, _, _, _, _, rfl, _⟩ := h; rfl) | (obtain ⟨_, _, _, _, _, _, _, rfl, _⟩ := h; rfl) | (obtain ⟨_, _, _, _, _, _, _, _, rfl, _⟩ := h; rfl) | (obtain ⟨_, _, _, _, _, _, _, _, _, rfl, _⟩ := h; rfl) | (obtain ⟨_, _, _, _, _, _, _, _, _, _, rfl, _⟩ := h; rfl) | (obtain ⟨_, _, _, _, _, _, _, _, _, _, _, rfl, _⟩ := h; rfl) | (obtain ⟨_, _, _, _, _, _, _, _, _, _, _, _, rfl, _⟩ := h; rfl) | (obtain ⟨_, _, _, _, _, _, _, _, _, _, _, _, _, rfl, _⟩ := h; rfl)
/-! ### sure_minute -/
def sp_sure_minute (K : PySem.W.Frag) : Sp := fun vs H Q E => ∃ (k : Kd) (m : Int), vs = [k.v, .int m] ∧ k.typ H ∧ (∀ z, intOf 0 (m - 1) k = some z → Q .non H) ∧ (intOf 0 (m - 1) k = none → E (.ref (ga K "NoClock")) none H)
theorem sp_sure_minute_kd {K : PySem.W.Frag} {H : Hp} {Q : VK} {E : XK} {m : Int} (k : Kd) (h : k.typ H) (q : ∀ z, intOf 0 (m - 1) k = some z → Q .non H) (b : intOf 0 (m - 1) k = none → E (.ref (ga K "NoClock")) none H) : sp_sure_minute K [k.v, .int m] H Q E := ⟨k, m, rfl, h, q, b⟩
def t_sure_minute (K : PySem.W.Frag) (E : XK) : TS :=
  (tIfS (tNot (tB (tCall (sp_is_between K) [] E0 (tCons (tVar 0) (tCons (tC (.int 0)) (tCons (tOp (rI0 fun i j => .int (i - j)) (tVar 1) (tC (.int 1))) tNil)))))) (tRaise E (ga K "NoClock")) tNext)
theorem run_sure_minute {K : PySem.W.Frag} {vs : List V} {H : Hp} {Q : VK} {E : XK} (h : sp_sure_minute K vs H Q E) : t_sure_minute K E (Ends.mk (fun _ H' => Q .non H') Q (fun _ _ => False) (fun _ _ => False)) (start ["minute", "many"] vs) H := by
  obtain ⟨k, m, rfl, ty, q, qb⟩ := h
  unfold t_sure_minute
  kpt_turns
  k_ownIn
  refine sp_between_kd k ty ?_
  k_ownIn
  have e := btw_intOf (lo := 0) (hi := m - 1) k
  cases hz : intOf 0 (m - 1) k with
  | none =>
    have e2 : btwV 0 (m - 1) k.v = false := by rw [e, hz]; rfl
    rw [e2]
    refine ite_nf ?_
    exact r_raise (qb hz)
  | some z =>
    have e2 : btwV 0 (m - 1) k.v = true := by rw [e, hz]; rfl
    rw [e2]
    k_ownIn
    exact q z hz
theorem len_sure_minute {K : PySem.W.Frag} {vs : List V} {H : Hp} {Q : VK} {E : XK} (h : sp_sure_minute K vs H Q E) : vs.length = 2 := by
  first | (obtain ⟨rfl, _⟩ := h; rfl) | (obtain ⟨_, rfl, _⟩ := h; rfl) | (obtain ⟨_, _, rfl, _⟩ := h; rfl) | (obtain ⟨_, _, _, rfl, _⟩ := h; rfl) | (obtain ⟨_, _, _, _, rfl, _⟩ := h; rfl) | (obtain ⟨_, _, _, _, _, rfl, _⟩ := h; rfl) | (obtain ⟨_, _, _, _, _, _, rfl, _⟩ := h; rfl) | (obtain ⟨_, _, _, _, _, _, _, rfl, _⟩ := h; rfl) | (obtain ⟨_, _, _, _, _, _, _, _, rfl, _⟩ := h; rfl) | (obtain ⟨_, _, _, _, _, _, _, _, _, rfl, _⟩ := h; rfl) | (obtain ⟨_, _, _, _, _, _, _, _, _, _, rfl, _⟩ := h; rfl) | (obtain ⟨_, _, _, _, _, _, _, _, _, _, _, rfl, _⟩ := h; rfl) | (obtain ⟨_, _, _, _, _, _, _, _, _, _, _, _, rfl, _⟩ := h; rfl) | (obtain ⟨_, _, _, _, _, _, _, _, _, _, _, _, _, rfl, _⟩ := h; rfl)
/-! ### sure_zone -/
def sp_sure_zone (K : PySem.W.Frag) : Sp := fun vs H Q E => ∃ (k : Kd), vs = [k.v] ∧ k.typ H ∧ (∀ z, zoneOf k = some z → Q .non H) ∧ (zoneOf k = none → E (.ref (ga K "NoClock")) none H)
theorem sp_sure_zone_kd {K : PySem.W.Frag} {H : Hp} {Q : VK} {E : XK} (k : Kd) (h : k.typ H) (q : ∀ z, zoneOf k = some z → Q .non H) (b : zoneOf k = none → E (.ref (ga K "NoClock")) none H) : sp_sure_zone K [k.v] H Q E := ⟨k, rfl, h, q, b⟩
def t_sure_zone (K : PySem.W.Frag) (E : XK) : TS :=
  (tIfS (tNot (tB (tCall (sp_is_between K) [] E0 (tCons (tVar 0) (tCons (tOp (rI0 fun i j => .int (i - j)) (tC (.int 1)) (tC (.int 1440))) (tCons (tOp (rI0 fun i j => .int (i - j)) (tC (.int 1440)) (tC (.int 1))) tNil)))))) (tRaise E (ga K "NoClock")) tNext)
theorem run_sure_zone {K : PySem.W.Frag} {vs : List V} {H : Hp} {Q : VK} {E : XK} (h : sp_sure_zone K vs H Q E) : t_sure_zone K E (Ends.mk (fun _ H' => Q .non H') Q (fun _ _ => False) (fun _ _ => False)) (start ["zone"] vs) H := by
  obtain ⟨k, rfl, ty, q, qb⟩ := h
  unfold t_sure_zone
  kpt_turns
  k_ownIn
  refine sp_between_kd k ty ?_
  k_ownIn
  have e := btw_intOf (lo := 1 - 1440) (hi := 1440 - 1) k
  cases hz : zoneOf k with
  | none =>
    have e2 : btwV (1 - 1440) (1440 - 1) k.v = false := by rw [e]; show (zoneOf k).isSome = false; rw [hz]; rfl
    rw [e2]
    refine ite_nf ?_
    exact r_raise (qb hz)
  | some z =>
    have e2 : btwV (1 - 1440) (1440 - 1) k.v = true := by rw [e]; show (zoneOf k).isSome = true; rw [hz]; rfl
    rw [e2]
    k_ownIn
    exact q z hz
theorem len_sure_zone {K : PySem.W.Frag} {vs : List V} {H : Hp} {Q : VK} {E : XK} (h : sp_sure_zone K vs H Q E) : vs.length = 1 := by
  first | (obtain ⟨rfl, _⟩ := h; rfl) | (obtain ⟨_, rfl, _⟩ := h; rfl) | (obtain ⟨_, _, rfl, _⟩ := h; rfl) | (obtain ⟨_, _, _, rfl, _⟩ := h; rfl) | (obtain ⟨_, _, _, _, rfl, _⟩ := h; rfl) | (obtain ⟨_, _, _, _, _, rfl, _⟩ := h; rfl) | (obtain ⟨_, _, _, _, _, _, rfl, _⟩ := h; rfl) | (obtain ⟨_, _, _, _, _, _, _, rfl, _⟩ := h; rfl) | (obtain ⟨_, _, _, _, _, _, _, _, rfl, _⟩ := h; rfl) | (obtain ⟨_, _, _, _, _, _, _, _, _, rfl, _⟩ := h; rfl) | (obtain ⟨_, _, _, _, _, _, _, _, _, _, rfl, _⟩ := h; rfl) | (obtain ⟨_, _, _, _, _, _, _, _, _, _, _, rfl, _⟩ := h; rfl) | (obtain ⟨_, _, _, _, _, _, _, _, _, _, _, _, rfl, _⟩ := h; rfl) | (obtain ⟨_, _, _, _, _, _, _, _, _, _, _, _, _, rfl, _⟩ := h; rfl)
/-! ### shown -/
def sp_shown (K : PySem.W.Frag) : Sp := fun vs H Q E => ∃ (m : Int) (k : Kd), vs = [.int m, k.v] ∧ k.typ H ∧ (∀ z, zoneOf k = some z → ∀ p, H p = none → Q (.ref p) (upd H p (.tup [.int ((m + z) / 1440), .int ((m + z) % 1440)]))) ∧ (zoneOf k = none → E (.ref (ga K "NoClock")) none H)
theorem sp_shown_kd {K : PySem.W.Frag} {H : Hp} {Q : VK} {E : XK} {m : Int} (k : Kd) (h : k.typ H) (q : ∀ z, zoneOf k = some z → ∀ p, H p = none → Q (.ref p) (upd H p (.tup [.int ((m + z) / 1440), .int ((m + z) % 1440)]))) (b : zoneOf k = none → E (.ref (ga K "NoClock")) none H) : sp_shown K [.int m, k.v] H Q E := ⟨m, k, rfl, h, q, b⟩
theorem sp_shown_use {K : PySem.W.Frag} {H : Hp} {Q : VK} {E : XK} {m z : Int} (h0 : -1439 ≤ z) (h1 : z ≤ 1439) (q : ∀ p, H p = none → Q (.ref p) (upd H p (.tup [.int ((m + z) / 1440), .int ((m + z) % 1440)]))) : sp_shown K [.int m, .int z] H Q E :=
  ⟨m, .int z, rfl, trivial, fun z' e => by rw [show zoneOf (.int z) = some z from intOf_int h0 h1] at e; cases e; exact q, fun e => by rw [show zoneOf (.int z) = some z from intOf_int h0 h1] at e; cases e⟩
local macro_rules | `(tactic| kas_types) => `(tactic| ((with_reducible refine sp_shown_use ?a ?b ?_); (case a => omega); (case b => omega)))
def t_shown (K : PySem.W.Frag) (E : XK) : TS :=
  (tSeq (tDrop (tCall (sp_sure_zone K) [] E (tCons (tVar 1) tNil)))
    (tRet (tCB rDivmod (tCons (tOp (rI0 fun i j => .int (i + j)) (tVar 0) (tVar 1)) (tCons (tC (.int 1440)) tNil)))))
theorem run_shown {K : PySem.W.Frag} {vs : List V} {H : Hp} {Q : VK} {E : XK} (h : sp_shown K vs H Q E) : t_shown K E (Ends.mk (fun _ H' => Q .non H') Q (fun _ _ => False) (fun _ _ => False)) (start ["moment", "zone"] vs) H := by
  obtain ⟨m, k, rfl, ty, q, qb⟩ := h
  unfold t_shown
  k_ownIn
  refine sp_sure_zone_kd k ty (fun z hz => ?_) qb
  obtain ⟨rfl, z0, z1⟩ := intOf_some hz
  dsimp only [Kd.v]
  k_ownIn
  exact q _ hz _ (by assumption)
theorem len_shown {K : PySem.W.Frag} {vs : List V} {H : Hp} {Q : VK} {E : XK} (h : sp_shown K vs H Q E) : vs.length = 2 := by
  first | (obtain ⟨rfl, _⟩ := h; rfl) | (obtain ⟨_, rfl, _⟩ := h; rfl) | (obtain ⟨_, _, rfl, _⟩ := h; rfl) | (obtain ⟨_, _, _, rfl, _⟩ := h; rfl) | (obtain ⟨_, _, _, _, rfl, _⟩ := h; rfl) | (obtain ⟨_, _, _, _, _, rfl, _⟩ := h; rfl) | (obtain ⟨_, _, _, _, _, _, rfl, _⟩ := h; rfl) | (obtain ⟨_, _, _, _, _, _, _, rfl, _⟩ := h; rfl) | (obtain ⟨_, _, _, _, _, _, _, _, rfl, _⟩ := h; rfl) | (obtain ⟨_, _, _, _, _, _, _, _, _, rfl, _⟩ := h; rfl) | (obtain ⟨_, _, _, _, _, _, _, _, _, _, rfl, _⟩ := h; rfl) | (obtain ⟨_, _, _, _, _, _, _, _, _, _, _, rfl, _⟩ := h; rfl) | (obtain ⟨_, _, _, _, _, _, _, _, _, _, _, _, rfl, _⟩ := h; rfl) | (obtain ⟨_, _, _, _, _, _, _, _, _, _, _, _, _, rfl, _⟩ := h; rfl)
/-! ### next_day -/
def sp_next_day (K : PySem.W.Frag) : Sp := fun vs H Q E => ∃ (k kz : Kd) (m : Int), vs = [k.v, kz.v, .int m] ∧ k.typ H ∧ kz.typ H ∧ (∀ n z, intOf 0 1439 k = some n → zoneOf kz = some z → ∀ H', Same H H' → Q (.int (m + (n - (m + z) % 1440) % 1440)) H') ∧
  (intOf 0 1439 k = none ∨ zoneOf kz = none → ∀ H', Same H H' → E (.ref (ga K "NoClock")) none H')
theorem sp_next_day_kd {K : PySem.W.Frag} {H : Hp} {Q : VK} {E : XK} {m : Int} (k kz : Kd) (h : k.typ H) (hz : kz.typ H) (q : ∀ n z, intOf 0 1439 k = some n → zoneOf kz = some z → ∀ H', Same H H' → Q (.int (m + (n - (m + z) % 1440) % 1440)) H')
    (b : intOf 0 1439 k = none ∨ zoneOf kz = none → ∀ H', Same H H' → E (.ref (ga K "NoClock")) none H') : sp_next_day K [k.v, kz.v, .int m] H Q E := ⟨k, kz, m, rfl, h, hz, q, b⟩
def t_next_day (K : PySem.W.Frag) (E : XK) : TS :=
  (tSeq (tDrop (tCall (sp_sure_minute K) [] E (tCons (tVar 0) (tCons (tC (.int 1440)) tNil))))
    (tRet (tOp (rI0 fun i j => .int (i + j)) (tVar 2) (tOp (rI (fun _ j => 0 < j) fun i j => .int (i % j)) (tOp (rI0 fun i j => .int (i - j)) (tVar 0) (tOp (rIx K) (tCall (sp_shown K) [] E (tCons (tVar 2) (tCons (tVar 1) tNil))) (tC (.int 1)))) (tC (.int 1440))))))
theorem run_next_day {K : PySem.W.Frag} {vs : List V} {H : Hp} {Q : VK} {E : XK} (h : sp_next_day K vs H Q E) : t_next_day K E (Ends.mk (fun _ H' => Q .non H') Q (fun _ _ => False) (fun _ _ => False)) (start ["minute", "zone", "moment"] vs) H := by
  obtain ⟨k, kz, m, rfl, ok, tz, q, qb⟩ := h
  unfold t_next_day
  k_ownIn
  refine sp_sure_minute_kd k ok (fun n hn => ?_) (fun hb => qb (.inl hb) H (Same.refl _))
  have q := q n
  have hn2 := intOf_some hn
  obtain ⟨rfl, n0, n1⟩ := hn2
  dsimp only [Kd.v]
  k_ownIn
  refine sp_shown_kd kz tz (fun z hz p hp => ?_) (fun hb => qb (.inr hb) H (Same.refl _))
  have q := q z hn hz
  k_ownIn
  exact q _ (by k_subL)
theorem len_next_day {K : PySem.W.Frag} {vs : List V} {H : Hp} {Q : VK} {E : XK} (h : sp_next_day K vs H Q E) : vs.length = 3 := by
  first | (obtain ⟨rfl, _⟩ := h; rfl) | (obtain ⟨_, rfl, _⟩ := h; rfl) | (obtain ⟨_, _, rfl, _⟩ := h; rfl) | (obtain ⟨_, _, _, rfl, _⟩ := h; rfl) | (obtain ⟨_, _, _, _, rfl, _⟩ := h; rfl) | (obtain ⟨_, _, _, _, _, rfl, _⟩ := h; rfl) | (obtain ⟨_, _, _, _, _, _, rfl, _⟩ := h; rfl) | (obtain ⟨_, _, _, _, _, _, _, rfl, _⟩ := h; rfl) | (obtain ⟨_, _, _, _, _, _, _, _, rfl, _⟩ := h; rfl) | (obtain ⟨_, _, _, _, _, _, _, _, _, rfl, _⟩ := h; rfl) | (obtain ⟨_, _, _, _, _, _, _, _, _, _, rfl, _⟩ := h; rfl) | (obtain ⟨_, _, _, _, _, _, _, _, _, _, _, rfl, _⟩ := h; rfl) | (obtain ⟨_, _, _, _, _, _, _, _, _, _, _, _, rfl, _⟩ := h; rfl) | (obtain ⟨_, _, _, _, _, _, _, _, _, _, _, _, _, rfl, _⟩ := h; rfl)
/-! ### sure_quiet -/
def sp_sure_quiet (K : PySem.W.Frag) : Sp := fun vs H Q E => ∃ (k : Kd), vs = [k.v] ∧ k.ok H ∧ (∀ o, quietOf k = some o → ∀ H', Same H H' → Q .non H') ∧ (quietOf k = none → ∀ H', Same H H' → E (.ref (ga K "NoClock")) none H')
theorem sp_sure_quiet_kd {K : PySem.W.Frag} {H : Hp} {Q : VK} {E : XK} (k : Kd) (h : k.ok H) (q : ∀ o, quietOf k = some o → ∀ H', Same H H' → Q .non H') (b : quietOf k = none → ∀ H', Same H H' → E (.ref (ga K "NoClock")) none H') : sp_sure_quiet K [k.v] H Q E := ⟨k, rfl, h, q, b⟩
theorem all2 {x y : V} {f : V → Bool} : [x, y].map (fun v => V.bl (f v)) = [f x, f y].map V.bl := rfl
def t_sure_quiet (K : PySem.W.Frag) (E : XK) : TS :=
  (tSeq (tIfS (tTest (tOp rIsN (tVar 0) (tC .non))) tRetN tNext)
    (tSeq (tIfS (tOr (tNot (tB (tCB (rIsi K) (tCons (tVar 0) (tCons (tC (.ty "tuple")) tNil))))) (tTest (tOp rNe (tCB (rLen K) (tCons (tVar 0) tNil)) (tC (.int 2))))) (tRaise E (ga K "NoClock")) tNext)
    (tIfS (tOr (tNot (tB (tCB (rAll K) (tCons (tLc (iTup K (tVar 0)) (gName 1) tYes (tCall (sp_is_between K) [] E0 (tCons (tVar 1) (tCons (tC (.int 0)) (tCons (tOp (rI0 fun i j => .int (i - j)) (tC (.int 1440)) (tC (.int 1))) tNil)))) [1]) tNil)))) (tTest (tOp rEq (tOp (rIx K) (tVar 0) (tC (.int 0))) (tOp (rIx K) (tVar 0) (tC (.int 1)))))) (tRaise E (ga K "NoClock")) tNext)))
theorem run_sure_quiet {K : PySem.W.Frag} {vs : List V} {H : Hp} {Q : VK} {E : XK} (h : sp_sure_quiet K vs H Q E) : t_sure_quiet K E (Ends.mk (fun _ H' => Q .non H') Q (fun _ _ => False) (fun _ _ => False)) (start ["quiet", "minute"] vs) H := by
  obtain ⟨k, rfl, ok, q, qb⟩ := h
  unfold t_sure_quiet
  cases k with
  | non =>
    dsimp only [Kd.v]
    k_ownIn
    exact q none rfl _ (Same.refl _)
  | tup a xs =>
    have ha : H a = some (.tup xs) := ok.1
    dsimp only [Kd.v]
    k_ownIn
    kpt_turns
    k_ownIn
    refine ite_d' (fun h2 => ?_) (fun h2 => ?_)
    · have h2' : xs.length = 2 := by omega
      k_ownIn
      kpt_turns
      k_ownIn
      obtain ⟨x, y, rfl⟩ : ∃ x y, xs = [x, y] := by
        match xs, h2' with
        | [x, y], _ => exact ⟨x, y, rfl⟩
      refine r_lcPT (fun v => .bl (btwV 0 (1440 - 1) v)) (SqT.of ha) (by simp only [List.length]; omega) (fun x => rfl) ?_ ?_
      · intro v D acc Q' hv hD hq
        obtain ⟨k, rfl, t, _⟩ := ok.2 v hv
        k_ownIn
        exact sp_between_kd k (t.same (Same.new (Same.refl _) hD)) hq
      · intro D hD
        k_ownIn
        refine r_all (bs := [btwV 0 (1440 - 1) x, btwV 0 (1440 - 1) y]) (SqL.of upd_same) ?_
        k_ownIn
        cases hx : btwV 0 (1440 - 1) x with
        | false =>
          refine ite_bt (by rfl) ?_
          k_ownIn
          refine r_raise (qb ?_ _ (by k_subL))
          cases hq : quietOf (.tup a [x, y]) with
          | none => rfl
          | some o =>
            rcases quietOf_some hq with ⟨z, _⟩ | ⟨a', s, e, z, _, s0, s1, _⟩
            · cases z
            · cases z
              rw [show btwV 0 (1440 - 1) (V.int s) = true from decide_eq_true ⟨s0, by omega⟩] at hx
              cases hx
        | true =>
          cases hy : btwV 0 (1440 - 1) y with
          | false =>
            refine ite_bt (by rfl) ?_
            k_ownIn
            refine r_raise (qb ?_ _ (by k_subL))
            cases hq : quietOf (.tup a [x, y]) with
            | none => rfl
            | some o =>
              rcases quietOf_some hq with ⟨z, _⟩ | ⟨a', s, e, z, _, _, _, e0, e1, _⟩
              · cases z
              · cases z
                rw [show btwV 0 (1440 - 1) (V.int e) = true from decide_eq_true ⟨e0, by omega⟩] at hy
                cases hy
          | true =>
            obtain ⟨s, rfl, s0, s1⟩ := btwV_yes hx
            obtain ⟨e, rfl, e0, e1⟩ := btwV_yes hy
            refine ite_bf (by rfl) ?_
            k_ownIn
            refine ite_d (fun he => ?_) (fun he => ?_)
            · refine r_raise (qb ?_ _ (by k_subL))
              rw [quietOf_pair, if_neg (fun z => z.2.2 he)]
            · k_ownIn
              exact q (some (s, e)) (by rw [quietOf_pair, if_pos ⟨⟨s0, by omega⟩, ⟨e0, by omega⟩, he⟩]) _ (by k_subL)
    · refine r_raise (qb (quietOf_len (by omega)) _ (Same.refl _))
  | _ =>
    dsimp only [Kd.v]
    k_ownIn
    refine r_raise (qb rfl _ (Same.refl _))
theorem len_sure_quiet {K : PySem.W.Frag} {vs : List V} {H : Hp} {Q : VK} {E : XK} (h : sp_sure_quiet K vs H Q E) : vs.length = 1 := by
  first | (obtain ⟨rfl, _⟩ := h; rfl) | (obtain ⟨_, rfl, _⟩ := h; rfl) | (obtain ⟨_, _, rfl, _⟩ := h; rfl) | (obtain ⟨_, _, _, rfl, _⟩ := h; rfl) | (obtain ⟨_, _, _, _, rfl, _⟩ := h; rfl) | (obtain ⟨_, _, _, _, _, rfl, _⟩ := h; rfl) | (obtain ⟨_, _, _, _, _, _, rfl, _⟩ := h; rfl) | (obtain ⟨_, _, _, _, _, _, _, rfl, _⟩ := h; rfl) | (obtain ⟨_, _, _, _, _, _, _, _, rfl, _⟩ := h; rfl) | (obtain ⟨_, _, _, _, _, _, _, _, _, rfl, _⟩ := h; rfl) | (obtain ⟨_, _, _, _, _, _, _, _, _, _, rfl, _⟩ := h; rfl) | (obtain ⟨_, _, _, _, _, _, _, _, _, _, _, rfl, _⟩ := h; rfl) | (obtain ⟨_, _, _, _, _, _, _, _, _, _, _, _, rfl, _⟩ := h; rfl) | (obtain ⟨_, _, _, _, _, _, _, _, _, _, _, _, _, rfl, _⟩ := h; rfl)
/-! ### is_quiet -/
def quietB (o : Option (Int × Int)) (n : Int) : Bool := match o with
  | none => false
  | some (s, e) => if s < e then decide (s ≤ n) && decide (n < e) else decide (s ≤ n) || decide (n < e)
def sp_is_quiet (K : PySem.W.Frag) : Sp := fun vs H Q E => ∃ (k kz : Kd) (m : Int), vs = [k.v, kz.v, .int m] ∧ k.ok H ∧ kz.typ H ∧ (∀ o z, quietOf k = some o → zoneOf kz = some z → ∀ H', Same H H' → Q (.bl (quietB o ((m + z) % 1440))) H') ∧
  (quietOf k = none ∨ zoneOf kz = none → ∀ H', Same H H' → E (.ref (ga K "NoClock")) none H')
theorem sp_is_quiet_kd {K : PySem.W.Frag} {H : Hp} {Q : VK} {E : XK} {m : Int} (k kz : Kd) (h : k.ok H) (hz : kz.typ H) (q : ∀ o z, quietOf k = some o → zoneOf kz = some z → ∀ H', Same H H' → Q (.bl (quietB o ((m + z) % 1440))) H')
    (b : quietOf k = none ∨ zoneOf kz = none → ∀ H', Same H H' → E (.ref (ga K "NoClock")) none H') : sp_is_quiet K [k.v, kz.v, .int m] H Q E := ⟨k, kz, m, rfl, h, hz, q, b⟩
def t_is_quiet (K : PySem.W.Frag) (E : XK) : TS :=
  (tSeq (tDrop (tCall (sp_sure_quiet K) [] E (tCons (tVar 0) tNil)))
    (tSeq (tAsg (tCall (sp_shown K) [] E (tCons (tVar 2) (tCons (tVar 1) tNil))) (gTup K 2 (gCons (gName 3) (gCons (gName 4) gNil))))
    (tSeq (tIfS (tTest (tOp rIsN (tVar 0) (tC .non))) (tRet (tC (.bl false))) tNext)
    (tSeq (tAsg (tVar 0) (gTup K 2 (gCons (gName 5) (gCons (gName 6) gNil))))
    (tSeq (tIfS (tTest (tOp (rI0 fun i j => .bl (decide (i < j))) (tVar 5) (tVar 6))) (tRet (tChain (rI0 fun i j => .bl (decide (i ≤ j))) (rI0 fun i j => .bl (decide (i < j))) (tVar 5) (tVar 4) (tVar 6))) tNext)
    (tRet (tOrV (tOp (rI0 fun i j => .bl (decide (j ≤ i))) (tVar 4) (tVar 5)) (tOp (rI0 fun i j => .bl (decide (i < j))) (tVar 4) (tVar 6)))))))))
theorem run_is_quiet {K : PySem.W.Frag} {vs : List V} {H : Hp} {Q : VK} {E : XK} (h : sp_is_quiet K vs H Q E) : t_is_quiet K E (Ends.mk (fun _ H' => Q .non H') Q (fun _ _ => False) (fun _ _ => False)) (start ["quiet", "zone", "moment", "day", "minute", "start", "end"] vs) H := by
  obtain ⟨k, kz, m, rfl, ok, tz, q, qb⟩ := h
  unfold t_is_quiet
  k_ownIn
  refine sp_sure_quiet_kd k ok (fun o ho H1 s1 => ?_) (fun hb H1 s1 => qb (.inl hb) H1 s1)
  k_ownIn
  refine sp_shown_kd kz (tz.same s1) (fun z hz p hp => ?_) (fun hb => qb (.inr hb) H1 s1)
  have q := q o z ho hz
  rcases quietOf_some ho with ⟨rfl, rfl⟩ | ⟨t, s, e, rfl, rfl, s0, s1', e0, e1, ne⟩
  · dsimp only [Kd.v]
    k_ownIn
    exact q _ (by k_subL)
  · have ht : H t = some (.tup [.int s, .int e]) := ok.1
    dsimp only [Kd.v]
    k_ownIn
    keq_rows
    · intro hse
      k_ownIn
      refine ite_d (fun h1 => ?_) (fun h1 => ?_)
      · k_ownIn
        refine q_bl ?_ (q _ (by k_subL))
        unfold quietB; simp [hse, h1]
      · refine q_bl ?_ (q _ (by k_subL))
        unfold quietB; simp [hse, h1]
    · intro hse
      k_ownIn
      refine ite_d (fun h1 => ?_) (fun h1 => ?_)
      · refine q_bl ?_ (q _ (by k_subL))
        unfold quietB; simp [hse, h1]
      · k_ownIn
        refine q_bl ?_ (q _ (by k_subL))
        unfold quietB; simp [hse, h1]
theorem len_is_quiet {K : PySem.W.Frag} {vs : List V} {H : Hp} {Q : VK} {E : XK} (h : sp_is_quiet K vs H Q E) : vs.length = 3 := by
  first | (obtain ⟨rfl, _⟩ := h; rfl) | (obtain ⟨_, rfl, _⟩ := h; rfl) | (obtain ⟨_, _, rfl, _⟩ := h; rfl) | (obtain ⟨_, _, _, rfl, _⟩ := h; rfl) | (obtain ⟨_, _, _, _, rfl, _⟩ := h; rfl) | (obtain ⟨_, _, _, _, _, rfl, _⟩ := h; rfl) | (obtain ⟨_, _, _, _, _, _, rfl, _⟩ := h; rfl) | (obtain ⟨_, _, _, _, _, _, _, rfl, _⟩ := h; rfl) | (obtain ⟨_, _, _, _, _, _, _, _, rfl, _⟩ := h; rfl) | (obtain ⟨_, _, _, _, _, _, _, _, _, rfl, _⟩ := h; rfl) | (obtain ⟨_, _, _, _, _, _, _, _, _, _, rfl, _⟩ := h; rfl) | (obtain ⟨_, _, _, _, _, _, _, _, _, _, _, rfl, _⟩ := h; rfl) | (obtain ⟨_, _, _, _, _, _, _, _, _, _, _, _, rfl, _⟩ := h; rfl) | (obtain ⟨_, _, _, _, _, _, _, _, _, _, _, _, _, rfl, _⟩ := h; rfl)
/-! ### loud_from -/
def loudF (o : Option (Int × Int)) (n : Int) : Int := match o with
  | none => 0
  | some (s, e) => if quietB (some (s, e)) n = true then (e - n) % 1440 else 0
theorem loudF_none (n : Int) : loudF none n = 0 := rfl
theorem loudF_some (s e n : Int) : loudF (some (s, e)) n = if quietB (some (s, e)) n = true then (e - n) % 1440 else 0 := rfl
def sp_loud_from (K : PySem.W.Frag) : Sp := fun vs H Q E => ∃ (k kz : Kd) (m : Int), vs = [k.v, kz.v, .int m] ∧ k.ok H ∧ kz.typ H ∧ (∀ o z, quietOf k = some o → zoneOf kz = some z → ∀ H', Same H H' → Q (.int (m + loudF o ((m + z) % 1440))) H') ∧
  (quietOf k = none ∨ zoneOf kz = none → ∀ H', Same H H' → E (.ref (ga K "NoClock")) none H')
theorem sp_loud_kd {K : PySem.W.Frag} {H : Hp} {Q : VK} {E : XK} {m : Int} (k kz : Kd) (h : k.ok H) (hz : kz.typ H) (q : ∀ o z, quietOf k = some o → zoneOf kz = some z → ∀ H', Same H H' → Q (.int (m + loudF o ((m + z) % 1440))) H')
    (b : quietOf k = none ∨ zoneOf kz = none → ∀ H', Same H H' → E (.ref (ga K "NoClock")) none H') : sp_loud_from K [k.v, kz.v, .int m] H Q E := ⟨k, kz, m, rfl, h, hz, q, b⟩
def t_loud_from (K : PySem.W.Frag) (E : XK) : TS :=
  (tSeq (tIfS (tNot (tB (tCall (sp_is_quiet K) [] E (tCons (tVar 0) (tCons (tVar 1) (tCons (tVar 2) tNil)))))) (tRet (tVar 2)) tNext)
    (tRet (tOp (rI0 fun i j => .int (i + j)) (tVar 2) (tOp (rI (fun _ j => 0 < j) fun i j => .int (i % j)) (tOp (rI0 fun i j => .int (i - j)) (tOp (rIx K) (tVar 0) (tC (.int 1))) (tOp (rIx K) (tCall (sp_shown K) [] E (tCons (tVar 2) (tCons (tVar 1) tNil))) (tC (.int 1)))) (tC (.int 1440))))))
theorem run_loud_from {K : PySem.W.Frag} {vs : List V} {H : Hp} {Q : VK} {E : XK} (h : sp_loud_from K vs H Q E) : t_loud_from K E (Ends.mk (fun _ H' => Q .non H') Q (fun _ _ => False) (fun _ _ => False)) (start ["quiet", "zone", "moment"] vs) H := by
  obtain ⟨k, kz, m, rfl, ok, tz, q, qb⟩ := h
  unfold t_loud_from
  k_ownIn
  kpt_turns
  k_ownIn
  refine sp_is_quiet_kd k kz ok tz (fun o z ho hz H1 s1 => ?_) (fun hb H1 s1 => qb hb H1 s1)
  have q := q o z ho hz
  k_ownIn
  refine ite_b (fun hb => ?_) (fun hb => ?_)
  · have hb : quietB o ((m + z) % 1440) = false := by simpa using hb
    k_ownIn
    have q2 := q _ s1
    have e : loudF o ((m + z) % 1440) = 0 := by
      cases o with
      | none => rfl
      | some p => obtain ⟨s, e⟩ := p; rw [loudF_some, hb]; rfl
    rw [e, Int.add_zero] at q2
    exact q2
  · have hb : quietB o ((m + z) % 1440) = true := by simpa using hb
    obtain ⟨rfl, z0, z1⟩ := intOf_some hz
    rcases quietOf_some ho with ⟨rfl, rfl⟩ | ⟨t, s, e, rfl, rfl, s0, s1', e0, e1, ne⟩
    · cases hb
    · have ht : H t = some (.tup [.int s, .int e]) := ok.1
      dsimp only [Kd.v]
      k_ownIn
      have hl : loudF (some (s, e)) ((m + z) % 1440) = (e - (m + z) % 1440) % 1440 := by rw [loudF_some, hb]; simp
      rw [hl] at q
      exact q _ (by k_subL)
theorem len_loud_from {K : PySem.W.Frag} {vs : List V} {H : Hp} {Q : VK} {E : XK} (h : sp_loud_from K vs H Q E) : vs.length = 3 := by
  first | (obtain ⟨rfl, _⟩ := h; rfl) | (obtain ⟨_, rfl, _⟩ := h; rfl) | (obtain ⟨_, _, rfl, _⟩ := h; rfl) | (obtain ⟨_, _, _, rfl, _⟩ := h; rfl) | (obtain ⟨_, _, _, _, rfl, _⟩ := h; rfl) | (obtain ⟨_, _, _, _, _, rfl, _⟩ := h; rfl) | (obtain ⟨_, _, _, _, _, _, rfl, _⟩ := h; rfl) | (obtain ⟨_, _, _, _, _, _, _, rfl, _⟩ := h; rfl) | (obtain ⟨_, _, _, _, _, _, _, _, rfl, _⟩ := h; rfl) | (obtain ⟨_, _, _, _, _, _, _, _, _, rfl, _⟩ := h; rfl) | (obtain ⟨_, _, _, _, _, _, _, _, _, _, rfl, _⟩ := h; rfl) | (obtain ⟨_, _, _, _, _, _, _, _, _, _, _, rfl, _⟩ := h; rfl) | (obtain ⟨_, _, _, _, _, _, _, _, _, _, _, _, rfl, _⟩ := h; rfl) | (obtain ⟨_, _, _, _, _, _, _, _, _, _, _, _, _, rfl, _⟩ := h; rfl)
/-! ### quiet_ahead -/
def sp_quiet_ahead (K : PySem.W.Frag) : Sp := fun vs H Q _ => ∃ (t : Addr) (s e z m : Int), vs = [.ref t, .int z, .int m] ∧ H t = some (.tup [.int s, .int e]) ∧ QOk s e ∧ -1439 ≤ z ∧ z ≤ 1439 ∧ ∀ H', Same H H' → Q (.int (qF s e (m + z))) H'
theorem sp_ahead_use {K : PySem.W.Frag} {H : Hp} {Q : VK} {E : XK} {t : Addr} {s e z m : Int} (ht : H t = some (.tup [.int s, .int e])) (o : QOk s e) (z0 : -1439 ≤ z) (z1 : z ≤ 1439) (q : ∀ H', Same H H' → Q (.int (qF s e (m + z))) H') : sp_quiet_ahead K [.ref t, .int z, .int m] H Q E := ⟨_, _, _, _, _, rfl, ht, o, z0, z1, q⟩
local macro_rules | `(tactic| kas_types) => `(tactic| ((with_reducible refine' sp_ahead_use ?ht ?o ?h0 ?h1 (fun H' s => ?_)); (case ht => kcj_m); (case o => assumption); (case h0 => omega); (case h1 => omega)))
def t_quiet_ahead (K : PySem.W.Frag) (E : XK) : TS :=
  (tSeq (tAsg (tVar 0) (gTup K 2 (gCons (gName 3) (gCons (gName 4) gNil))))
    (tSeq (tAsg (tCall (sp_shown K) [] E (tCons (tVar 2) (tCons (tVar 1) tNil))) (gTup K 2 (gCons (gName 5) (gCons (gName 6) gNil))))
    (tSeq (tIfS (tTest (tOp (rI0 fun i j => .bl (decide (i < j))) (tVar 3) (tVar 4))) (tRet (tOp (rI0 fun i j => .int (i + j)) (tOp (rI CMul fun i j => .int (i * j)) (tVar 5) (tOp (rI0 fun i j => .int (i - j)) (tVar 4) (tVar 3))) (tCB rMin2 (tCons (tCB rMax2 (tCons (tOp (rI0 fun i j => .int (i - j)) (tVar 6) (tVar 3)) (tCons (tC (.int 0)) tNil))) (tCons (tOp (rI0 fun i j => .int (i - j)) (tVar 4) (tVar 3)) tNil))))) tNext)
    (tRet (tOp (rI0 fun i j => .int (i + j)) (tOp (rI0 fun i j => .int (i + j)) (tOp (rI CMul fun i j => .int (i * j)) (tVar 5) (tOp (rI0 fun i j => .int (i - j)) (tOp (rI0 fun i j => .int (i + j)) (tVar 4) (tC (.int 1440))) (tVar 3))) (tCB rMin2 (tCons (tVar 6) (tCons (tVar 4) tNil)))) (tCB rMax2 (tCons (tOp (rI0 fun i j => .int (i - j)) (tVar 6) (tVar 3)) (tCons (tC (.int 0)) tNil))))))))
theorem run_quiet_ahead {K : PySem.W.Frag} {vs : List V} {H : Hp} {Q : VK} {E : XK} (h : sp_quiet_ahead K vs H Q E) : t_quiet_ahead K E (Ends.mk (fun _ H' => Q .non H') Q (fun _ _ => False) (fun _ _ => False)) (start ["quiet", "zone", "moment", "start", "end", "day", "minute"] vs) H := by
  obtain ⟨t, s, e, z, m, rfl, ht, o, z0, z1, q⟩ := h
  obtain ⟨s0, s1, e0, e1, ne⟩ := id o
  unfold t_quiet_ahead
  k_ownIn
  keq_rows
  · intro hse
    k_ownIn
    have hL : (e - s) % 1440 = e - s := by omega
    have hr : qF s e (m + z) = (m + z) / 1440 * (e - s) + (if e - s < (if 0 > (m + z) % 1440 - s then 0 else (m + z) % 1440 - s) then e - s else (if 0 > (m + z) % 1440 - s then 0 else (m + z) % 1440 - s)) := by
      unfold qF qPart
      rw [hL, if_pos hse]
      generalize (m + z) / 1440 * (e - s) = x
      (repeat' split) <;> omega
    rw [hr] at q
    exact q _ (by k_subL)
  · intro hse
    k_ownIn
    have hL : (e - s) % 1440 = e + 1440 - s := by omega
    have hr : qF s e (m + z) = (m + z) / 1440 * (e + 1440 - s) + (if e < (m + z) % 1440 then e else (m + z) % 1440) + (if 0 > (m + z) % 1440 - s then 0 else (m + z) % 1440 - s) := by
      unfold qF qPart
      rw [hL, if_neg hse]
      generalize (m + z) / 1440 * (e + 1440 - s) = x
      (repeat' split) <;> omega
    rw [hr] at q
    exact q _ (by k_subL)
theorem len_quiet_ahead {K : PySem.W.Frag} {vs : List V} {H : Hp} {Q : VK} {E : XK} (h : sp_quiet_ahead K vs H Q E) : vs.length = 3 := by
  first | (obtain ⟨rfl, _⟩ := h; rfl) | (obtain ⟨_, rfl, _⟩ := h; rfl) | (obtain ⟨_, _, rfl, _⟩ := h; rfl) | (obtain ⟨_, _, _, rfl, _⟩ := h; rfl) | (obtain ⟨_, _, _, _, rfl, _⟩ := h; rfl) | (obtain ⟨_, _, _, _, _, rfl, _⟩ := h; rfl) | (obtain ⟨_, _, _, _, _, _, rfl, _⟩ := h; rfl) | (obtain ⟨_, _, _, _, _, _, _, rfl, _⟩ := h; rfl) | (obtain ⟨_, _, _, _, _, _, _, _, rfl, _⟩ := h; rfl) | (obtain ⟨_, _, _, _, _, _, _, _, _, rfl, _⟩ := h; rfl) | (obtain ⟨_, _, _, _, _, _, _, _, _, _, rfl, _⟩ := h; rfl) | (obtain ⟨_, _, _, _, _, _, _, _, _, _, _, rfl, _⟩ := h; rfl) | (obtain ⟨_, _, _, _, _, _, _, _, _, _, _, _, rfl, _⟩ := h; rfl) | (obtain ⟨_, _, _, _, _, _, _, _, _, _, _, _, _, rfl, _⟩ := h; rfl)
/-! ### quiet_count -/
def countF (o : Option (Int × Int)) (a b : Int) : Int := match o with
  | none => 0
  | some (s, e) => if b ≤ a then 0 else qF s e b - qF s e a
theorem countF_none (a b : Int) : countF none a b = 0 := rfl
theorem countF_some (s e a b : Int) : countF (some (s, e)) a b = if b ≤ a then 0 else qF s e b - qF s e a := rfl
theorem countF_le {s e a b : Int} (h : a ≤ b) : countF (some (s, e)) a b = qF s e b - qF s e a := by
  rw [countF_some]
  by_cases hb : b ≤ a
  · have e1 : a = b := by omega
    rw [if_pos hb, e1]; omega
  · rw [if_neg hb]
def sp_quiet_count (K : PySem.W.Frag) : Sp := fun vs H Q E => ∃ (k kz : Kd) (a b : Int), vs = [k.v, kz.v, .int a, .int b] ∧ k.ok H ∧ kz.typ H ∧ (∀ o z, quietOf k = some o → zoneOf kz = some z → ∀ H', Same H H' → Q (.int (countF o (a + z) (b + z))) H') ∧
  (quietOf k = none ∨ zoneOf kz = none → ∀ H', Same H H' → E (.ref (ga K "NoClock")) none H')
theorem sp_count_kd {K : PySem.W.Frag} {H : Hp} {Q : VK} {E : XK} {a b : Int} (k kz : Kd) (h : k.ok H) (hz : kz.typ H) (q : ∀ o z, quietOf k = some o → zoneOf kz = some z → ∀ H', Same H H' → Q (.int (countF o (a + z) (b + z))) H')
    (bb : quietOf k = none ∨ zoneOf kz = none → ∀ H', Same H H' → E (.ref (ga K "NoClock")) none H') : sp_quiet_count K [k.v, kz.v, .int a, .int b] H Q E := ⟨k, kz, a, b, rfl, h, hz, q, bb⟩
def t_quiet_count (K : PySem.W.Frag) (E : XK) : TS :=
  (tSeq (tDrop (tCall (sp_sure_quiet K) [] E (tCons (tVar 0) tNil)))
    (tSeq (tDrop (tCall (sp_sure_zone K) [] E (tCons (tVar 1) tNil)))
    (tSeq (tIfS (tOr (tTest (tOp rIsN (tVar 0) (tC .non))) (tTest (tOp (rI0 fun i j => .bl (decide (i ≤ j))) (tVar 3) (tVar 2)))) (tRet (tC (.int 0))) tNext)
    (tRet (tOp (rI0 fun i j => .int (i - j)) (tCall (sp_quiet_ahead K) [] E (tCons (tVar 0) (tCons (tVar 1) (tCons (tVar 3) tNil)))) (tCall (sp_quiet_ahead K) [] E (tCons (tVar 0) (tCons (tVar 1) (tCons (tVar 2) tNil)))))))))
theorem run_quiet_count {K : PySem.W.Frag} {vs : List V} {H : Hp} {Q : VK} {E : XK} (h : sp_quiet_count K vs H Q E) : t_quiet_count K E (Ends.mk (fun _ H' => Q .non H') Q (fun _ _ => False) (fun _ _ => False)) (start ["quiet", "zone", "one", "other"] vs) H := by
  obtain ⟨k, kz, a, b, rfl, ok, tz, q, qb⟩ := h
  unfold t_quiet_count
  k_ownIn
  refine sp_sure_quiet_kd k ok (fun o ho H1 s1 => ?_) (fun hb H1 s1 => qb (.inl hb) H1 s1)
  k_ownIn
  refine sp_sure_zone_kd kz (tz.same s1) (fun z hz => ?_) (fun hb => qb (.inr hb) H1 s1)
  have q := q o z ho hz
  obtain ⟨rfl, z0, z1⟩ := intOf_some hz
  rcases quietOf_some ho with ⟨rfl, rfl⟩ | ⟨t, s, e, rfl, rfl, s0, s1', e0, e1, ne⟩
  · dsimp only [Kd.v]
    k_ownIn
    exact q _ s1
  · have ht : H t = some (.tup [.int s, .int e]) := ok.1
    have o : QOk s e := ⟨s0, s1', e0, e1, ne⟩
    dsimp only [Kd.v]
    k_ownIn
    keq_rows
    · intro hc
      have hle : b ≤ a := by simpa using hc
      k_ownIn
      have e1 : countF (some (s, e)) (a + z) (b + z) = 0 := by rw [countF_some, if_pos (by omega)]
      rw [e1] at q
      exact q _ (by k_subL)
    · intro hc
      have hle : ¬ b ≤ a := by simpa using hc
      k_ownIn
      have e1 : countF (some (s, e)) (a + z) (b + z) = qF s e (b + z) - qF s e (a + z) := by rw [countF_some, if_neg (by omega)]
      rw [e1] at q
      exact q _ (by k_subL)
theorem len_quiet_count {K : PySem.W.Frag} {vs : List V} {H : Hp} {Q : VK} {E : XK} (h : sp_quiet_count K vs H Q E) : vs.length = 4 := by
  first | (obtain ⟨rfl, _⟩ := h; rfl) | (obtain ⟨_, rfl, _⟩ := h; rfl) | (obtain ⟨_, _, rfl, _⟩ := h; rfl) | (obtain ⟨_, _, _, rfl, _⟩ := h; rfl) | (obtain ⟨_, _, _, _, rfl, _⟩ := h; rfl) | (obtain ⟨_, _, _, _, _, rfl, _⟩ := h; rfl) | (obtain ⟨_, _, _, _, _, _, rfl, _⟩ := h; rfl) | (obtain ⟨_, _, _, _, _, _, _, rfl, _⟩ := h; rfl) | (obtain ⟨_, _, _, _, _, _, _, _, rfl, _⟩ := h; rfl) | (obtain ⟨_, _, _, _, _, _, _, _, _, rfl, _⟩ := h; rfl) | (obtain ⟨_, _, _, _, _, _, _, _, _, _, rfl, _⟩ := h; rfl) | (obtain ⟨_, _, _, _, _, _, _, _, _, _, _, rfl, _⟩ := h; rfl) | (obtain ⟨_, _, _, _, _, _, _, _, _, _, _, _, rfl, _⟩ := h; rfl) | (obtain ⟨_, _, _, _, _, _, _, _, _, _, _, _, _, rfl, _⟩ := h; rfl)
/-! ### next_hour -/
def sp_next_hour (K : PySem.W.Frag) : Sp := fun vs H Q E => ∃ (k kz : Kd) (m : Int), vs = [k.v, kz.v, .int m] ∧ k.typ H ∧ kz.typ H ∧ (∀ n z, intOf 0 59 k = some n → zoneOf kz = some z → ∀ H', Same H H' → Q (.int (m + (n - (m + z) % 1440) % 60)) H') ∧
  (intOf 0 59 k = none ∨ zoneOf kz = none → ∀ H', Same H H' → E (.ref (ga K "NoClock")) none H')
theorem sp_next_hour_kd {K : PySem.W.Frag} {H : Hp} {Q : VK} {E : XK} {m : Int} (k kz : Kd) (h : k.typ H) (hz : kz.typ H) (q : ∀ n z, intOf 0 59 k = some n → zoneOf kz = some z → ∀ H', Same H H' → Q (.int (m + (n - (m + z) % 1440) % 60)) H')
    (b : intOf 0 59 k = none ∨ zoneOf kz = none → ∀ H', Same H H' → E (.ref (ga K "NoClock")) none H') : sp_next_hour K [k.v, kz.v, .int m] H Q E := ⟨k, kz, m, rfl, h, hz, q, b⟩
def t_next_hour (K : PySem.W.Frag) (E : XK) : TS :=
  (tSeq (tDrop (tCall (sp_sure_minute K) [] E (tCons (tVar 0) (tCons (tC (.int 60)) tNil))))
    (tRet (tOp (rI0 fun i j => .int (i + j)) (tVar 2) (tOp (rI (fun _ j => 0 < j) fun i j => .int (i % j)) (tOp (rI0 fun i j => .int (i - j)) (tVar 0) (tOp (rIx K) (tCall (sp_shown K) [] E (tCons (tVar 2) (tCons (tVar 1) tNil))) (tC (.int 1)))) (tC (.int 60))))))
theorem run_next_hour {K : PySem.W.Frag} {vs : List V} {H : Hp} {Q : VK} {E : XK} (h : sp_next_hour K vs H Q E) : t_next_hour K E (Ends.mk (fun _ H' => Q .non H') Q (fun _ _ => False) (fun _ _ => False)) (start ["minute", "zone", "moment"] vs) H := by
  obtain ⟨k, kz, m, rfl, ok, tz, q, qb⟩ := h
  unfold t_next_hour
  k_ownIn
  refine sp_sure_minute_kd k ok (fun n hn => ?_) (fun hb => qb (.inl hb) H (Same.refl _))
  have q := q n
  have hn2 := intOf_some hn
  obtain ⟨rfl, n0, n1⟩ := hn2
  dsimp only [Kd.v]
  k_ownIn
  refine sp_shown_kd kz tz (fun z hz p hp => ?_) (fun hb => qb (.inr hb) H (Same.refl _))
  have q := q z hn hz
  k_ownIn
  exact q _ (by k_subL)
theorem len_next_hour {K : PySem.W.Frag} {vs : List V} {H : Hp} {Q : VK} {E : XK} (h : sp_next_hour K vs H Q E) : vs.length = 3 := by
  first | (obtain ⟨rfl, _⟩ := h; rfl) | (obtain ⟨_, rfl, _⟩ := h; rfl) | (obtain ⟨_, _, rfl, _⟩ := h; rfl) | (obtain ⟨_, _, _, rfl, _⟩ := h; rfl) | (obtain ⟨_, _, _, _, rfl, _⟩ := h; rfl) | (obtain ⟨_, _, _, _, _, rfl, _⟩ := h; rfl) | (obtain ⟨_, _, _, _, _, _, rfl, _⟩ := h; rfl) | (obtain ⟨_, _, _, _, _, _, _, rfl, _⟩ := h; rfl) | (obtain ⟨_, _, _, _, _, _, _, _, rfl, _⟩ := h; rfl) | (obtain ⟨_, _, _, _, _, _, _, _, _, rfl, _⟩ := h; rfl) | (obtain ⟨_, _, _, _, _, _, _, _, _, _, rfl, _⟩ := h; rfl) | (obtain ⟨_, _, _, _, _, _, _, _, _, _, _, rfl, _⟩ := h; rfl) | (obtain ⟨_, _, _, _, _, _, _, _, _, _, _, _, rfl, _⟩ := h; rfl) | (obtain ⟨_, _, _, _, _, _, _, _, _, _, _, _, _, rfl, _⟩ := h; rfl)
/-! ### _law_asked -/
/-- what is told, none where it is refused -/
def askG (w : Int) (kz kq kh kd : Kd) (m : Int) : Option PyData := match zoneOf kz with
  | none => none
  | some z =>
    if w < 2 then some (.tuple [.int ((m + z) / 1440), .int ((m + z) % 1440)])
    else if w < 8 then (match quietOf kq with
      | none => none
      | some o => if w < 4 then some (.bool (quietB o ((m + z) % 1440))) else if w < 6 then some (.int (m + loudF o ((m + z) % 1440))) else (match kd with
        | .int d => some (.int (countF o (m + z) (m + d - 700 + z)))
        | _ => none))
    else if w < 10 then (match intOf 0 59 kh with
      | none => none
      | some n => some (.int (m + (n - (m + z) % 1440) % 60)))
    else (match intOf 0 1439 kd with
      | none => none
      | some n => some (.int (m + (n - (m + z) % 1440) % 1440)))
section
variable {w m z : Int} {kz kq kh kd : Kd} {o : Option (Int × Int)}
theorem askG_zone (h : zoneOf kz = none) : askG w kz kq kh kd m = none := by unfold askG; rw [h]
theorem askG_quiet (h : quietOf kq = none) (h2 : ¬ w < 2) (h8 : w < 8) : askG w kz kq kh kd m = none := by
  unfold askG
  split
  · rfl
  · rw [if_neg h2, if_pos h8, h]
theorem askG_hour (h : intOf 0 59 kh = none) (h8 : ¬ w < 8) (h10 : w < 10) : askG w kz kq kh kd m = none := by
  unfold askG
  split
  · rfl
  · rw [if_neg (by omega), if_neg h8, if_pos h10, h]
theorem askG_day (h : intOf 0 1439 kd = none) (h10 : ¬ w < 10) : askG w kz kq kh kd m = none := by
  unfold askG
  split
  · rfl
  · rw [if_neg (by omega), if_neg (by omega), if_neg h10, h]
theorem askG_shown (hz : zoneOf kz = some z) (h2 : w < 2) : askG w kz kq kh kd m = some (.tuple [.int ((m + z) / 1440), .int ((m + z) % 1440)]) := by unfold askG; rw [hz]; show (if _ then _ else _) = _; rw [if_pos h2]
theorem askG_isq (hz : zoneOf kz = some z) (hq : quietOf kq = some o) (h2 : ¬ w < 2) (h4 : w < 4) : askG w kz kq kh kd m = some (.bool (quietB o ((m + z) % 1440))) := by
  unfold askG; rw [hz]; show (if _ then _ else _) = _; rw [if_neg h2, if_pos (by omega), hq]; show (if _ then _ else _) = _; rw [if_pos h4]
theorem askG_loud (hz : zoneOf kz = some z) (hq : quietOf kq = some o) (h4 : ¬ w < 4) (h6 : w < 6) : askG w kz kq kh kd m = some (.int (m + loudF o ((m + z) % 1440))) := by
  unfold askG; rw [hz]; show (if _ then _ else _) = _; rw [if_neg (by omega), if_pos (by omega), hq]; show (if _ then _ else _) = _; rw [if_neg h4, if_pos h6]
theorem askG_count {d : Int} (hz : zoneOf kz = some z) (hq : quietOf kq = some o) (h6 : ¬ w < 6) (h8 : w < 8) : askG w kz kq kh (.int d) m = some (.int (countF o (m + z) (m + d - 700 + z))) := by
  unfold askG; rw [hz]; show (if _ then _ else _) = _; rw [if_neg (by omega), if_pos h8, hq]; show (if _ then _ else _) = _; rw [if_neg (by omega), if_neg h6]
theorem askG_nh {n : Int} (hz : zoneOf kz = some z) (hn : intOf 0 59 kh = some n) (h8 : ¬ w < 8) (h10 : w < 10) : askG w kz kq kh kd m = some (.int (m + (n - (m + z) % 1440) % 60)) := by
  unfold askG; rw [hz]; show (if _ then _ else _) = _; rw [if_neg (by omega), if_neg h8, if_pos h10, hn]
theorem askG_nd {n : Int} (hz : zoneOf kz = some z) (hn : intOf 0 1439 kd = some n) (h10 : ¬ w < 10) : askG w kz kq kh kd m = some (.int (m + (n - (m + z) % 1440) % 1440)) := by
  unfold askG; rw [hz]; show (if _ then _ else _) = _; rw [if_neg (by omega), if_neg (by omega), if_neg h10, hn]
end
def sp_law_asked (K : PySem.W.Frag) : Sp := fun vs H Q E => ∃ (w : Int) (kz kq kh kd : Kd) (m : Int), vs = [.int w, kz.v, kq.v, kh.v, kd.v, .int m] ∧ kz.typ H ∧ kq.ok H ∧ kh.typ H ∧ kd.typ H ∧ (6 ≤ w → w < 8 → ∃ d, kd = .int d) ∧
  (∀ d, askG w kz kq kh kd m = some d → ∀ v H', Same H H' → VD H' v d → Q v H') ∧ (askG w kz kq kh kd m = none → ∀ H', Same H H' → E (.ref (ga K "NoClock")) none H')
theorem sp_asked_kd {K : PySem.W.Frag} {H : Hp} {Q : VK} {E : XK} {w m : Int} (kz kq kh kd : Kd) (tz : kz.typ H) (tq : kq.ok H) (th : kh.typ H) (td : kd.typ H) (hd : 6 ≤ w → w < 8 → ∃ d, kd = .int d)
  (q : ∀ d, askG w kz kq kh kd m = some d → ∀ v H', Same H H' → VD H' v d → Q v H') (b : askG w kz kq kh kd m = none → ∀ H', Same H H' → E (.ref (ga K "NoClock")) none H') : sp_law_asked K [.int w, kz.v, kq.v, kh.v, kd.v, .int m] H Q E := ⟨w, kz, kq, kh, kd, m, rfl, tz, tq, th, td, hd, q, b⟩
def t_law_asked (K : PySem.W.Frag) (E : XK) : TS :=
  (tSeq (tIfS (tTest (tOp (rI0 fun i j => .bl (decide (i < j))) (tVar 0) (tC (.int 2)))) (tRet (tCall (sp_shown K) [] E (tCons (tVar 5) (tCons (tVar 1) tNil)))) tNext)
    (tSeq (tIfS (tTest (tOp (rI0 fun i j => .bl (decide (i < j))) (tVar 0) (tC (.int 4)))) (tRet (tCall (sp_is_quiet K) [] E (tCons (tVar 2) (tCons (tVar 1) (tCons (tVar 5) tNil))))) tNext)
    (tSeq (tIfS (tTest (tOp (rI0 fun i j => .bl (decide (i < j))) (tVar 0) (tC (.int 6)))) (tRet (tCall (sp_loud_from K) [] E (tCons (tVar 2) (tCons (tVar 1) (tCons (tVar 5) tNil))))) tNext)
    (tSeq (tIfS (tTest (tOp (rI0 fun i j => .bl (decide (i < j))) (tVar 0) (tC (.int 8)))) (tRet (tCall (sp_quiet_count K) [] E (tCons (tVar 2) (tCons (tVar 1) (tCons (tVar 5) (tCons (tOp (rI0 fun i j => .int (i - j)) (tOp (rI0 fun i j => .int (i + j)) (tVar 5) (tVar 4)) (tC (.int 700))) tNil)))))) tNext)
    (tSeq (tIfS (tTest (tOp (rI0 fun i j => .bl (decide (i < j))) (tVar 0) (tC (.int 10)))) (tRet (tCall (sp_next_hour K) [] E (tCons (tVar 3) (tCons (tVar 1) (tCons (tVar 5) tNil))))) tNext)
    (tRet (tCall (sp_next_day K) [] E (tCons (tVar 4) (tCons (tVar 1) (tCons (tVar 5) tNil))))))))))
theorem run_law_asked {K : PySem.W.Frag} {vs : List V} {H : Hp} {Q : VK} {E : XK} (h : sp_law_asked K vs H Q E) : t_law_asked K E (Ends.mk (fun _ H' => Q .non H') Q (fun _ _ => False) (fun _ _ => False)) (start ["_law_way", "_law_zone", "_law_quiet_here", "_law_hour", "_law_day", "_law_moment"] vs) H := by
  obtain ⟨w, kz, kq, kh, kd, m, rfl, tz, tq, th, td, hd, q, qb⟩ := h
  unfold t_law_asked
  k_ownIn
  kpt_turns
  k_ownIn
  refine ite_d ?_ ?_
  · intro h2
    k_ownIn
    refine sp_shown_kd kz tz (fun z hz p hp => ?_) (fun hb => qb (askG_zone hb) H (Same.refl _))
    exact q _ (askG_shown hz h2) _ _ (by k_subL) (.inr (.inr ⟨p, _, _, rfl, by kcj_m, rfl⟩))
  · intro h2
    k_ownIn
    kpt_turns
    k_ownIn
    refine ite_d ?_ ?_
    · intro h4
      k_ownIn
      refine sp_is_quiet_kd kq kz tq tz (fun o z ho hz H1 s1 => ?_) (fun hb H1 s1 => qb (hb.elim (fun x => askG_quiet x h2 (by omega)) askG_zone) H1 s1)
      exact q _ (askG_isq hz ho h2 h4) _ _ s1 (.inr (.inl ⟨_, rfl, rfl⟩))
    · intro h4
      k_ownIn
      kpt_turns
      k_ownIn
      refine ite_d ?_ ?_
      · intro h6
        k_ownIn
        refine sp_loud_kd kq kz tq tz (fun o z ho hz H1 s1 => ?_) (fun hb H1 s1 => qb (hb.elim (fun x => askG_quiet x h2 (by omega)) askG_zone) H1 s1)
        exact q _ (askG_loud hz ho h4 h6) _ _ s1 (.inl ⟨_, rfl, rfl⟩)
      · intro h6
        k_ownIn
        kpt_turns
        k_ownIn
        refine ite_d ?_ ?_
        · intro h8
          obtain ⟨d, rfl⟩ := hd (by omega) h8
          dsimp only [Kd.v]
          k_ownIn
          refine sp_count_kd kq kz tq tz (fun o z ho hz H1 s1 => ?_) (fun hb H1 s1 => qb (hb.elim (fun x => askG_quiet x h2 h8) askG_zone) H1 s1)
          exact q _ (askG_count hz ho h6 h8) _ _ s1 (.inl ⟨_, rfl, rfl⟩)
        · intro h8
          k_ownIn
          kpt_turns
          k_ownIn
          refine ite_d ?_ ?_
          · intro h10
            k_ownIn
            refine sp_next_hour_kd kh kz th tz (fun n z hn hz H1 s1 => ?_) (fun hb H1 s1 => qb (hb.elim (fun x => askG_hour x h8 h10) askG_zone) H1 s1)
            exact q _ (askG_nh hz hn h8 h10) _ _ s1 (.inl ⟨_, rfl, rfl⟩)
          · intro h10
            k_ownIn
            refine sp_next_day_kd kd kz td tz (fun n z hn hz H1 s1 => ?_) (fun hb H1 s1 => qb (hb.elim (fun x => askG_day x h10) askG_zone) H1 s1)
            exact q _ (askG_nd hz hn h10) _ _ s1 (.inl ⟨_, rfl, rfl⟩)
theorem len_law_asked {K : PySem.W.Frag} {vs : List V} {H : Hp} {Q : VK} {E : XK} (h : sp_law_asked K vs H Q E) : vs.length = 6 := by
  first | (obtain ⟨rfl, _⟩ := h; rfl) | (obtain ⟨_, rfl, _⟩ := h; rfl) | (obtain ⟨_, _, rfl, _⟩ := h; rfl) | (obtain ⟨_, _, _, rfl, _⟩ := h; rfl) | (obtain ⟨_, _, _, _, rfl, _⟩ := h; rfl) | (obtain ⟨_, _, _, _, _, rfl, _⟩ := h; rfl) | (obtain ⟨_, _, _, _, _, _, rfl, _⟩ := h; rfl) | (obtain ⟨_, _, _, _, _, _, _, rfl, _⟩ := h; rfl) | (obtain ⟨_, _, _, _, _, _, _, _, rfl, _⟩ := h; rfl) | (obtain ⟨_, _, _, _, _, _, _, _, _, rfl, _⟩ := h; rfl) | (obtain ⟨_, _, _, _, _, _, _, _, _, _, rfl, _⟩ := h; rfl) | (obtain ⟨_, _, _, _, _, _, _, _, _, _, _, rfl, _⟩ := h; rfl) | (obtain ⟨_, _, _, _, _, _, _, _, _, _, _, _, rfl, _⟩ := h; rfl) | (obtain ⟨_, _, _, _, _, _, _, _, _, _, _, _, _, rfl, _⟩ := h; rfl)
/-! ### _law_bad_zone -/
def sp_law_bad_zone (K : PySem.W.Frag) : Sp := fun vs H Q _ => ∃ (l : Addr) (w : Wl), vs = [.ref l] ∧ H l = some w.o ∧ ∀ (k : Kd) (w' : Wl) (H' : Hp), zoneOf k = none → Gd l H' k → H' l = some w'.o → Kp l H H' → Q k.v H'
theorem sp_bad_zone_use {K : PySem.W.Frag} {H : Hp} {Q : VK} {E : XK} {l : Addr} {w : Wl} (h : H l = some w.o) (q : ∀ (k : Kd) (w' : Wl) (H' : Hp), zoneOf k = none → Gd l H' k → H' l = some w'.o → Kp l H H' → Q k.v H') : sp_law_bad_zone K [.ref l] H Q E := ⟨_, _, rfl, h, q⟩
local macro_rules | `(tactic| kas_types) => `(tactic| ((with_reducible refine' sp_bad_zone_use ?h (fun k w' H' hk gk hl kp => ?_)); (case h => kcj_m)))
theorem intOf_out {lo hi i : Int} (h : ¬ (lo ≤ i ∧ i ≤ hi)) : intOf lo hi (.int i) = none := by
  show (if lo ≤ i ∧ i ≤ hi then some i else none) = none
  rw [if_neg h]
def t_law_bad_zone (K : PySem.W.Frag) : TS :=
  (tSeq (tAsg (tOp (rI0 fun i j => .int (i + j)) (tC (.int 1440)) (tCall (sp_law_draw K) [] E0 (tCons (tVar 0) (tCons (tC (.int 100000)) tNil)))) (gName 1))
    (tRet (tOp (rIx K) (tLst (tCons (tC (.int 1440)) (tCons (tUn (rU fun i => .int (-i)) (tC (.int 1440))) (tCons (tVar 1) (tCons (tOp (rI0 fun i j => .int (i - j)) (tC (.int 0)) (tVar 1)) (tCons (tC (.bl true)) (tCons (tC (.bl false)) (tCons (tC .non) (tCons (tC (.str "0")) (tCons (tTup (tCons (tC (.int 0)) tNil)) (tCons (tLst (tCons (tC (.int 0)) tNil)) tNil))))))))))) (tCall (sp_law_draw K) [] E0 (tCons (tVar 0) (tCons (tC (.int 10)) tNil))))))
theorem run_law_bad_zone {K : PySem.W.Frag} {vs : List V} {H : Hp} {Q : VK} {E : XK} (h : sp_law_bad_zone K vs H Q E) : t_law_bad_zone K (Ends.mk (fun _ H' => Q .non H') Q (fun _ _ => False) (fun _ _ => False)) (start ["_law_well_here", "_law_far"] vs) H := by
  obtain ⟨l, w, rfl, hl, q⟩ := h
  unfold t_law_bad_zone
  k_ownIn
  rename_i f wf f0 f1 t ht a ha p hp i wi i0 i1
  have ntl : t ≠ l := by k_clsL
  have nal : a ≠ l := by k_clsL
  refine r_ixH (fun x H' => ∃ k : Kd, x = k.v ∧ zoneOf k = none ∧ Gd l H' k) (by k_places) (by omega) (by simp only [List.length]; omega) ?_ ?_
  · intro x hx
    simp only [List.mem_cons, List.not_mem_nil, or_false] at hx
    rcases hx with rfl | rfl | rfl | rfl | rfl | rfl | rfl | rfl | rfl | rfl
    · exact ⟨.int _, rfl, intOf_out (by omega), Gd.int⟩
    · exact ⟨.int _, rfl, intOf_out (by omega), Gd.int⟩
    · exact ⟨.int _, rfl, intOf_out (by omega), Gd.int⟩
    · exact ⟨.int _, rfl, intOf_out (by omega), Gd.int⟩
    · exact ⟨.bl _, rfl, rfl, ⟨trivial, fun z => by cases z⟩⟩
    · exact ⟨.bl _, rfl, rfl, ⟨trivial, fun z => by cases z⟩⟩
    · exact ⟨.non, rfl, rfl, ⟨trivial, fun z => by cases z⟩⟩
    · exact ⟨.str _, rfl, rfl, ⟨trivial, fun z => by cases z⟩⟩
    · refine ⟨.tup t [.int 0], rfl, rfl, ⟨⟨by kcj_m, fun x hx => ?_⟩, fun z => ntl (V.ref.inj z)⟩⟩
      simp only [List.mem_cons, List.not_mem_nil, or_false] at hx
      exact ⟨.int 0, hx, trivial, trivial⟩
    · exact ⟨.lst a [.int 0], rfl, rfl, ⟨by show _ = some (HO.lst [V.int 0]); kcj_m, fun z => nal (V.ref.inj z)⟩⟩
  · rintro x ⟨k, rfl, hk, gk⟩
    exact q k _ _ hk gk (by kcj_m) (by k_subL)
theorem len_law_bad_zone {K : PySem.W.Frag} {vs : List V} {H : Hp} {Q : VK} {E : XK} (h : sp_law_bad_zone K vs H Q E) : vs.length = 1 := by
  first | (obtain ⟨rfl, _⟩ := h; rfl) | (obtain ⟨_, rfl, _⟩ := h; rfl) | (obtain ⟨_, _, rfl, _⟩ := h; rfl) | (obtain ⟨_, _, _, rfl, _⟩ := h; rfl) | (obtain ⟨_, _, _, _, rfl, _⟩ := h; rfl) | (obtain ⟨_, _, _, _, _, rfl, _⟩ := h; rfl) | (obtain ⟨_, _, _, _, _, _, rfl, _⟩ := h; rfl) | (obtain ⟨_, _, _, _, _, _, _, rfl, _⟩ := h; rfl) | (obtain ⟨_, _, _, _, _, _, _, _, rfl, _⟩ := h; rfl) | (obtain ⟨_, _, _, _, _, _, _, _, _, rfl, _⟩ := h; rfl) | (obtain ⟨_, _, _, _, _, _, _, _, _, _, rfl, _⟩ := h; rfl) | (obtain ⟨_, _, _, _, _, _, _, _, _, _, _, rfl, _⟩ := h; rfl) | (obtain ⟨_, _, _, _, _, _, _, _, _, _, _, _, rfl, _⟩ := h; rfl) | (obtain ⟨_, _, _, _, _, _, _, _, _, _, _, _, _, rfl, _⟩ := h; rfl)
/-! ### _law_refused -/
def sp_law_refused (K : PySem.W.Frag) : Sp := fun vs H Q _ => ∃ (w : Int) (kz kq kh kd : Kd) (m : Int), vs = [.int w, kz.v, kq.v, kh.v, kd.v, .int m] ∧ kz.typ H ∧ kq.ok H ∧ kh.typ H ∧ kd.typ H ∧ (6 ≤ w → w < 8 → ∃ d, kd = .int d) ∧ askG w kz kq kh kd m = none ∧ ∀ H', Same H H' → Q (.bl true) H'
theorem sp_refused_kd {K : PySem.W.Frag} {H : Hp} {Q : VK} {E : XK} {w m : Int} (kz kq kh kd : Kd) (tz : kz.typ H) (tq : kq.ok H) (th : kh.typ H) (td : kd.typ H) (hd : 6 ≤ w → w < 8 → ∃ d, kd = .int d)
  (hn : askG w kz kq kh kd m = none) (q : ∀ H', Same H H' → Q (.bl true) H') : sp_law_refused K [.int w, kz.v, kq.v, kh.v, kd.v, .int m] H Q E := ⟨w, kz, kq, kh, kd, m, rfl, tz, tq, th, td, hd, hn, q⟩
def t_law_refused (K : PySem.W.Frag) : TS :=
  (tSeq (tAsg (tC (.bl false)) (gName 6))
    (tSeq (tTryAs K (.ref (ga K "BellError")) 7 (fun W => (tDrop (tCallS (sp_law_asked K) (WE W) (tCons (tVar 0) (tCons (tVar 1) (tCons (tVar 2) (tCons (tVar 3) (tCons (tVar 4) (tCons (tVar 5) tNil)))))))))
    (fun a cls d => (tSeq (tAsg (tCB (rIsXT K cls d a) (tCons (tVar 7) (tCons (tTup (tCons (tC (.ref (ga K "Backward"))) (tCons (tC (.ref (ga K "Fallen"))) (tCons (tC (.ref (ga K "NoBook"))) (tCons (tC (.ref (ga K "NoFit"))) (tCons (tC (.ref (ga K "NoHappening"))) (tCons (tC (.ref (ga K "NoNumber"))) (tCons (tC (.ref (ga K "NoRoad"))) (tCons (tC (.ref (ga K "NoRow"))) tNil))))))))) tNil))) (gName 8))
    (tSeq (tAsg (tOrV (tVar 8) (tCB (rIsXT K cls d a) (tCons (tVar 7) (tCons (tTup (tCons (tC (.ref (ga K "NoText"))) (tCons (tC (.ref (ga K "NoTime"))) (tCons (tC (.ref (ga K "NoWish"))) tNil)))) tNil)))) (gName 8))
    (tAsg (tAndV (tCB (rIsX K cls d a) (tCons (tVar 7) (tCons (tC (.ref (ga K "NoClock"))) tNil))) (tAndV (tCB (rIsX K cls d a) (tCons (tVar 7) (tCons (tC (.ty "ValueError")) tNil))) (tNotV (tVar 8)))) (gName 6))))) (fun _ _ _ _ => False))
    (tRet (tVar 6))))
theorem run_law_refused {K : PySem.W.Frag} {vs : List V} {H : Hp} {Q : VK} {E : XK} (h : sp_law_refused K vs H Q E) (hx : xf_law_refused K = true) : t_law_refused K (Ends.mk (fun _ H' => Q .non H') Q (fun _ _ => False) (fun _ _ => False)) (start ["_law_way", "_law_zone", "_law_quiet_here", "_law_hour", "_law_day", "_law_moment", "_law_found", "e", "_law_others"] vs) H := by
  obtain ⟨w, kz, kq, kh, kd, m, rfl, tz, tq, th, td, hd, hn, q⟩ := h
  obtain ⟨x1, hx⟩ := b2 hx
  obtain ⟨x2, hx⟩ := b2 hx
  obtain ⟨x3, hx⟩ := b2 hx
  obtain ⟨x4, hx⟩ := b2 hx
  obtain ⟨x5, x6⟩ := b2 hx
  have x1 := excB_ok x1
  have x2 := of_decide_eq_true x2
  have x3 := of_decide_eq_true x3
  have x4 := of_decide_eq_true x4
  have x5 := of_decide_eq_true x5
  have x6 := of_decide_eq_true x6
  unfold t_law_refused
  k_ownIn
  refine r_tryAs ?_
  k_ownIn
  refine r_callS ?_
  k_ownIn
  refine sp_asked_kd kz kq kh kd tz tq th td hd (fun d hd => by rw [hn] at hd; cases hd) (fun _ H1 s1 => ?_)
  refine r_caught x2 (fun a ha => ?_)
  k_ownIn
  refine r_isXT upd_same x1 (.cons (.own _) (.cons (.own _) (.cons (.own _) (.cons (.own _) (.cons (.own _) (.cons (.own _) (.cons (.own _) (.cons (.own _) .nil)))))))) x3 ?_
  k_ownIn
  refine r_isXT upd_same x1 (.cons (.own _) (.cons (.own _) (.cons (.own _) .nil))) x4 ?_
  k_ownIn
  refine r_isX x1 (.own _) x5 ?_
  k_ownIn
  refine r_isX x1 (.ty _) x6 ?_
  k_ownIn
  exact q _ (by k_subL)
theorem len_law_refused {K : PySem.W.Frag} {vs : List V} {H : Hp} {Q : VK} {E : XK} (h : sp_law_refused K vs H Q E) : vs.length = 6 := by
  first | (obtain ⟨rfl, _⟩ := h; rfl) | (obtain ⟨_, rfl, _⟩ := h; rfl) | (obtain ⟨_, _, rfl, _⟩ := h; rfl) | (obtain ⟨_, _, _, rfl, _⟩ := h; rfl) | (obtain ⟨_, _, _, _, rfl, _⟩ := h; rfl) | (obtain ⟨_, _, _, _, _, rfl, _⟩ := h; rfl) | (obtain ⟨_, _, _, _, _, _, rfl, _⟩ := h; rfl) | (obtain ⟨_, _, _, _, _, _, _, rfl, _⟩ := h; rfl) | (obtain ⟨_, _, _, _, _, _, _, _, rfl, _⟩ := h; rfl) | (obtain ⟨_, _, _, _, _, _, _, _, _, rfl, _⟩ := h; rfl) | (obtain ⟨_, _, _, _, _, _, _, _, _, _, rfl, _⟩ := h; rfl) | (obtain ⟨_, _, _, _, _, _, _, _, _, _, _, rfl, _⟩ := h; rfl) | (obtain ⟨_, _, _, _, _, _, _, _, _, _, _, _, rfl, _⟩ := h; rfl) | (obtain ⟨_, _, _, _, _, _, _, _, _, _, _, _, _, rfl, _⟩ := h; rfl)
/-! ### _law_bad_quiet -/
def sp_law_bad_quiet (K : PySem.W.Frag) : Sp := fun vs H Q _ => ∃ (l : Addr) (w : Wl), vs = [.ref l] ∧ H l = some w.o ∧ ∀ (k : Kd) (w' : Wl) (H' : Hp), quietOf k = none → Gd l H' k → H' l = some w'.o → Kp l H H' → Q k.v H'
theorem sp_bad_quiet_use {K : PySem.W.Frag} {H : Hp} {Q : VK} {E : XK} {l : Addr} {w : Wl} (h : H l = some w.o) (q : ∀ (k : Kd) (w' : Wl) (H' : Hp), quietOf k = none → Gd l H' k → H' l = some w'.o → Kp l H H' → Q k.v H') : sp_law_bad_quiet K [.ref l] H Q E := ⟨_, _, rfl, h, q⟩
local macro_rules | `(tactic| kas_types) => `(tactic| ((with_reducible refine' sp_bad_quiet_use ?h (fun k w' H' hk gk hl kp => ?_)); (case h => kcj_m)))
theorem quietOf_bad1 {a : Addr} {g : Int} {k : Kd} (h : intOf 0 1439 k = none) : quietOf (.tup a [.int g, k.v]) = none := by
  cases k with
  | int i =>
    show quietOf (.tup a [.int g, .int i]) = none
    rw [quietOf_pair, if_neg]
    intro z
    rw [intOf_int z.2.1.1 z.2.1.2] at h
    cases h
  | _ => rfl
theorem quietOf_bad2 {a : Addr} {g : Int} {k : Kd} (h : intOf 0 1439 k = none) : quietOf (.tup a [k.v, .int g]) = none := by
  cases k with
  | int i =>
    show quietOf (.tup a [.int i, .int g]) = none
    rw [quietOf_pair, if_neg]
    intro z
    rw [intOf_int z.1.1 z.1.2] at h
    cases h
  | _ => rfl
theorem quietOf_same {a : Addr} {g : Int} : quietOf (.tup a [.int g, .int g]) = none := by
  rw [quietOf_pair, if_neg (fun z => z.2.2 rfl)]
def t_law_bad_quiet (K : PySem.W.Frag) : TS :=
  (tSeq (tAsg (tCall (sp_law_draw K) [] E0 (tCons (tVar 0) (tCons (tC (.int 1440)) tNil))) (gName 1))
    (tSeq (tAsg (tOp (rIx K) (tLst (tCons (tUn (rU fun i => .int (-i)) (tC (.int 1))) (tCons (tC (.int 1440)) (tCons (tC (.bl true)) (tCons (tC .non) (tCons (tC (.str "5")) (tCons (tTup (tCons (tC (.int 5)) tNil)) (tCons (tOp (rI0 fun i j => .int (i + j)) (tC (.int 1440)) (tCall (sp_law_draw K) [] E0 (tCons (tVar 0) (tCons (tC (.int 100000)) tNil)))) tNil)))))))) (tCall (sp_law_draw K) [] E0 (tCons (tVar 0) (tCons (tC (.int 7)) tNil)))) (gName 2))
    (tSeq (tAsg (tOp (rI (fun _ j => 0 < j) fun i j => .int (i % j)) (tOp (rI0 fun i j => .int (i + j)) (tVar 1) (tC (.int 1))) (tC (.int 1440))) (gName 3))
    (tSeq (tAsg (tLst (tCons (tTup (tCons (tVar 1) (tCons (tVar 2) tNil))) (tCons (tTup (tCons (tVar 2) (tCons (tVar 1) tNil))) (tCons (tTup (tCons (tVar 1) (tCons (tVar 1) tNil))) (tCons (tTup (tCons (tVar 1) tNil)) (tCons (tTup (tCons (tVar 1) (tCons (tVar 3) (tCons (tC (.int 5)) tNil)))) (tCons (tTup tNil) (tCons (tLst (tCons (tVar 1) (tCons (tVar 3) tNil))) (tCons (tC (.str "")) (tCons (tC (.str "55")) (tCons (tVar 1) tNil))))))))))) (gName 4))
    (tRet (tOp (rIx K) (tOp rCat (tVar 4) (tLst (tCons (tC (.bl false)) (tCons (tC (.int 0)) tNil)))) (tCall (sp_law_draw K) [] E0 (tCons (tVar 0) (tCons (tC (.int 12)) tNil)))))))))
theorem run_law_bad_quiet {K : PySem.W.Frag} {vs : List V} {H : Hp} {Q : VK} {E : XK} (h : sp_law_bad_quiet K vs H Q E) : t_law_bad_quiet K (Ends.mk (fun _ H' => Q .non H') Q (fun _ _ => False) (fun _ _ => False)) (start ["_law_well_here", "_law_good", "_law_bad", "_law_other", "_law_some"] vs) H := by
  obtain ⟨l, w, rfl, hl, q⟩ := h
  unfold t_law_bad_quiet
  k_ownIn
  rename_i f wf f0 f1 t ht f2 wf2 f20 f21 a ha i wi i0 i1
  have ntl : t ≠ l := by k_clsL
  refine r_ixH (fun x H' => ∃ k : Kd, x = k.v ∧ intOf 0 1439 k = none ∧ k.typ H' ∧ k.isTup ∧ k.v ≠ .ref l) (by k_places) (by omega) (by simp only [List.length]; omega) ?_ ?_
  · intro x hx
    simp only [List.mem_cons, List.not_mem_nil, or_false] at hx
    rcases hx with rfl | rfl | rfl | rfl | rfl | rfl | rfl
    · exact ⟨.int _, rfl, by decide, trivial, trivial, fun z => by cases z⟩
    · exact ⟨.int _, rfl, by decide, trivial, trivial, fun z => by cases z⟩
    · exact ⟨.bl _, rfl, rfl, trivial, trivial, fun z => by cases z⟩
    · exact ⟨.non, rfl, rfl, trivial, trivial, fun z => by cases z⟩
    · exact ⟨.str _, rfl, rfl, trivial, trivial, fun z => by cases z⟩
    · exact ⟨.tup t [.int 5], rfl, rfl, by show _ = some (HO.tup [V.int 5]); kcj_m, trivial, fun z => ntl (V.ref.inj z)⟩
    · refine ⟨.int _, rfl, ?_, trivial, trivial, fun z => by cases z⟩
      show (if _ then _ else _) = _
      rw [if_neg (by omega)]
  · rintro x ⟨kb, rfl, hb, tb, ib, nb⟩
    k_ownIn
    rename_i a1 h1 a2 h2 a3 h3 a4 h4 a5 h5 a6 h6 a7 h7 a8 h8 a9 h9 a10 h10 j wj j0 j1
    have n1 : a1 ≠ l := by k_clsL
    have n2 : a2 ≠ l := by k_clsL
    have n3 : a3 ≠ l := by k_clsL
    have n4 : a4 ≠ l := by k_clsL
    have n5 : a5 ≠ l := by k_clsL
    have n6 : a6 ≠ l := by k_clsL
    have n7 : a7 ≠ l := by k_clsL
    refine r_ixH (fun x H' => ∃ k : Kd, x = k.v ∧ quietOf k = none ∧ Gd l H' k) (by k_places) (by omega) (by simp only [List.length_append, List.length]; omega) ?_ ?_
    · intro x hx
      simp only [List.cons_append, List.nil_append, List.mem_cons, List.not_mem_nil, or_false] at hx
      rcases hx with rfl | rfl | rfl | rfl | rfl | rfl | rfl | rfl | rfl | rfl | rfl | rfl
      · refine ⟨.tup a1 [.int f, kb.v], rfl, quietOf_bad1 hb, ⟨⟨by kcj_m, fun x hx => ?_⟩, fun z => n1 (V.ref.inj z)⟩⟩
        simp only [List.mem_cons, List.not_mem_nil, or_false] at hx
        rcases hx with rfl | rfl
        · exact ⟨.int _, rfl, trivial, trivial⟩
        · exact ⟨kb, rfl, tb.kp (l := l) (by k_subL) (upd_same (o := wi.o)) nb, ib⟩
      · refine ⟨.tup a2 [kb.v, .int f], rfl, quietOf_bad2 hb, ⟨⟨by kcj_m, fun x hx => ?_⟩, fun z => n2 (V.ref.inj z)⟩⟩
        simp only [List.mem_cons, List.not_mem_nil, or_false] at hx
        rcases hx with rfl | rfl
        · exact ⟨kb, rfl, tb.kp (l := l) (by k_subL) (upd_same (o := wi.o)) nb, ib⟩
        · exact ⟨.int _, rfl, trivial, trivial⟩
      · refine ⟨.tup a3 [.int f, .int f], rfl, quietOf_same, ⟨⟨by kcj_m, fun x hx => ?_⟩, fun z => n3 (V.ref.inj z)⟩⟩
        simp only [List.mem_cons, List.not_mem_nil, or_false] at hx
        rcases hx with rfl | rfl <;> exact ⟨.int _, rfl, trivial, trivial⟩
      · refine ⟨.tup a4 [.int f], rfl, quietOf_len (by simp), ⟨⟨by kcj_m, fun x hx => ?_⟩, fun z => n4 (V.ref.inj z)⟩⟩
        simp only [List.mem_cons, List.not_mem_nil, or_false] at hx
        rcases hx with rfl
        exact ⟨.int _, rfl, trivial, trivial⟩
      · refine ⟨.tup a5 [.int f, .int _, .int 5], rfl, quietOf_len (by simp), ⟨⟨by kcj_m, fun x hx => ?_⟩, fun z => n5 (V.ref.inj z)⟩⟩
        simp only [List.mem_cons, List.not_mem_nil, or_false] at hx
        rcases hx with rfl | rfl | rfl <;> exact ⟨.int _, rfl, trivial, trivial⟩
      · refine ⟨.tup a6 [], rfl, quietOf_len (by simp), ⟨⟨by kcj_m, fun x hx => ?_⟩, fun z => n6 (V.ref.inj z)⟩⟩
        cases hx
      · exact ⟨.lst a7 [.int f, .int _], rfl, rfl, ⟨by show _ = some (HO.lst _); kcj_m, fun z => n7 (V.ref.inj z)⟩⟩
      · exact ⟨.str _, rfl, rfl, ⟨trivial, fun z => by cases z⟩⟩
      · exact ⟨.str _, rfl, rfl, ⟨trivial, fun z => by cases z⟩⟩
      · exact ⟨.int _, rfl, rfl, ⟨trivial, fun z => by cases z⟩⟩
      · exact ⟨.bl _, rfl, rfl, ⟨trivial, fun z => by cases z⟩⟩
      · exact ⟨.int _, rfl, rfl, ⟨trivial, fun z => by cases z⟩⟩
    · rintro x ⟨k, rfl, hk, gk⟩
      exact q k _ _ hk gk (by kcj_m) (by k_subL)
theorem len_law_bad_quiet {K : PySem.W.Frag} {vs : List V} {H : Hp} {Q : VK} {E : XK} (h : sp_law_bad_quiet K vs H Q E) : vs.length = 1 := by
  first | (obtain ⟨rfl, _⟩ := h; rfl) | (obtain ⟨_, rfl, _⟩ := h; rfl) | (obtain ⟨_, _, rfl, _⟩ := h; rfl) | (obtain ⟨_, _, _, rfl, _⟩ := h; rfl) | (obtain ⟨_, _, _, _, rfl, _⟩ := h; rfl) | (obtain ⟨_, _, _, _, _, rfl, _⟩ := h; rfl) | (obtain ⟨_, _, _, _, _, _, rfl, _⟩ := h; rfl) | (obtain ⟨_, _, _, _, _, _, _, rfl, _⟩ := h; rfl) | (obtain ⟨_, _, _, _, _, _, _, _, rfl, _⟩ := h; rfl) | (obtain ⟨_, _, _, _, _, _, _, _, _, rfl, _⟩ := h; rfl) | (obtain ⟨_, _, _, _, _, _, _, _, _, _, rfl, _⟩ := h; rfl) | (obtain ⟨_, _, _, _, _, _, _, _, _, _, _, rfl, _⟩ := h; rfl) | (obtain ⟨_, _, _, _, _, _, _, _, _, _, _, _, rfl, _⟩ := h; rfl) | (obtain ⟨_, _, _, _, _, _, _, _, _, _, _, _, _, rfl, _⟩ := h; rfl)
/-! ### _law_bad_minute -/
def sp_law_bad_minute (K : PySem.W.Frag) : Sp := fun vs H Q _ => ∃ (l : Addr) (w : Wl) (m : Int), vs = [.ref l, .int m] ∧ H l = some w.o ∧ 0 < m ∧ ∀ (k : Kd) (w' : Wl) (H' : Hp), intOf 0 (m - 1) k = none → Gd l H' k → H' l = some w'.o → Kp l H H' → Q k.v H'
theorem sp_bad_minute_use {K : PySem.W.Frag} {H : Hp} {Q : VK} {E : XK} {l : Addr} {w : Wl} {m : Int} (h : H l = some w.o) (hm : 0 < m) (q : ∀ (k : Kd) (w' : Wl) (H' : Hp), intOf 0 (m - 1) k = none → Gd l H' k → H' l = some w'.o → Kp l H H' → Q k.v H') : sp_law_bad_minute K [.ref l, .int m] H Q E := ⟨_, _, _, rfl, h, hm, q⟩
local macro_rules | `(tactic| kas_types) => `(tactic| ((with_reducible refine' sp_bad_minute_use ?h ?hm (fun k w' H' hk gk hl kp => ?_)); (case h => kcj_m); (case hm => omega)))
def t_law_bad_minute (K : PySem.W.Frag) : TS :=
  (tSeq (tAsg (tOp (rI0 fun i j => .int (i + j)) (tVar 1) (tCall (sp_law_draw K) [] E0 (tCons (tVar 0) (tCons (tC (.int 100000)) tNil)))) (gName 2))
    (tRet (tOp (rIx K) (tLst (tCons (tUn (rU fun i => .int (-i)) (tC (.int 1))) (tCons (tVar 1) (tCons (tVar 2) (tCons (tOp (rI0 fun i j => .int (i - j)) (tUn (rU fun i => .int (-i)) (tC (.int 1))) (tVar 2)) (tCons (tC (.bl true)) (tCons (tC (.bl false)) (tCons (tC .non) (tCons (tC (.str "5")) (tCons (tTup (tCons (tC (.int 5)) tNil)) (tCons (tLst (tCons (tC (.int 5)) tNil)) tNil))))))))))) (tCall (sp_law_draw K) [] E0 (tCons (tVar 0) (tCons (tC (.int 10)) tNil))))))
theorem run_law_bad_minute {K : PySem.W.Frag} {vs : List V} {H : Hp} {Q : VK} {E : XK} (h : sp_law_bad_minute K vs H Q E) : t_law_bad_minute K (Ends.mk (fun _ H' => Q .non H') Q (fun _ _ => False) (fun _ _ => False)) (start ["_law_well_here", "_law_many", "_law_far"] vs) H := by
  obtain ⟨l, w, m, rfl, hl, hm, q⟩ := h
  unfold t_law_bad_minute
  k_ownIn
  rename_i f wf f0 f1 t ht a ha p hp i wi i0 i1
  have ntl : t ≠ l := by k_clsL
  have nal : a ≠ l := by k_clsL
  refine r_ixH (fun x H' => ∃ k : Kd, x = k.v ∧ intOf 0 (m - 1) k = none ∧ Gd l H' k) (by k_places) (by omega) (by simp only [List.length]; omega) ?_ ?_
  · intro x hx
    simp only [List.mem_cons, List.not_mem_nil, or_false] at hx
    rcases hx with rfl | rfl | rfl | rfl | rfl | rfl | rfl | rfl | rfl | rfl
    · exact ⟨.int _, rfl, intOf_out (by omega), Gd.int⟩
    · exact ⟨.int _, rfl, intOf_out (by omega), Gd.int⟩
    · exact ⟨.int _, rfl, intOf_out (by omega), Gd.int⟩
    · exact ⟨.int _, rfl, intOf_out (by omega), Gd.int⟩
    · exact ⟨.bl _, rfl, rfl, ⟨trivial, fun z => by cases z⟩⟩
    · exact ⟨.bl _, rfl, rfl, ⟨trivial, fun z => by cases z⟩⟩
    · exact ⟨.non, rfl, rfl, ⟨trivial, fun z => by cases z⟩⟩
    · exact ⟨.str _, rfl, rfl, ⟨trivial, fun z => by cases z⟩⟩
    · refine ⟨.tup t [.int 5], rfl, rfl, ⟨⟨by kcj_m, fun x hx => ?_⟩, fun z => ntl (V.ref.inj z)⟩⟩
      simp only [List.mem_cons, List.not_mem_nil, or_false] at hx
      exact ⟨.int 5, hx, trivial, trivial⟩
    · exact ⟨.lst a [.int 5], rfl, rfl, ⟨by show _ = some (HO.lst [V.int 5]); kcj_m, fun z => nal (V.ref.inj z)⟩⟩
  · rintro x ⟨k, rfl, hk, gk⟩
    exact q k _ _ hk gk (by kcj_m) (by k_subL)
theorem len_law_bad_minute {K : PySem.W.Frag} {vs : List V} {H : Hp} {Q : VK} {E : XK} (h : sp_law_bad_minute K vs H Q E) : vs.length = 2 := by
  first | (obtain ⟨rfl, _⟩ := h; rfl) | (obtain ⟨_, rfl, _⟩ := h; rfl) | (obtain ⟨_, _, rfl, _⟩ := h; rfl) | (obtain ⟨_, _, _, rfl, _⟩ := h; rfl) | (obtain ⟨_, _, _, _, rfl, _⟩ := h; rfl) | (obtain ⟨_, _, _, _, _, rfl, _⟩ := h; rfl) | (obtain ⟨_, _, _, _, _, _, rfl, _⟩ := h; rfl) | (obtain ⟨_, _, _, _, _, _, _, rfl, _⟩ := h; rfl) | (obtain ⟨_, _, _, _, _, _, _, _, rfl, _⟩ := h; rfl) | (obtain ⟨_, _, _, _, _, _, _, _, _, rfl, _⟩ := h; rfl) | (obtain ⟨_, _, _, _, _, _, _, _, _, _, rfl, _⟩ := h; rfl) | (obtain ⟨_, _, _, _, _, _, _, _, _, _, _, rfl, _⟩ := h; rfl) | (obtain ⟨_, _, _, _, _, _, _, _, _, _, _, _, rfl, _⟩ := h; rfl) | (obtain ⟨_, _, _, _, _, _, _, _, _, _, _, _, _, rfl, _⟩ := h; rfl)
/-! ### _law_right -/
theorem askG_good {w m z h d : Int} {kq : Kd} {o : Option (Int × Int)} (z0 : -1439 ≤ z) (z1 : z ≤ 1439) (hq : quietOf kq = some o) (h0 : 0 ≤ h) (h1 : h ≤ 59) (d0 : 0 ≤ d) (d1 : d ≤ 1439) : ∃ t, askG w (.int z) kq (.int h) (.int d) m = some t := by
  have hz : zoneOf (.int z) = some z := intOf_int z0 z1
  by_cases a2 : w < 2
  · exact ⟨_, askG_shown hz a2⟩
  by_cases a4 : w < 4
  · exact ⟨_, askG_isq hz hq a2 a4⟩
  by_cases a6 : w < 6
  · exact ⟨_, askG_loud hz hq a4 a6⟩
  by_cases a8 : w < 8
  · exact ⟨_, askG_count hz hq a6 a8⟩
  by_cases a10 : w < 10
  · exact ⟨_, askG_nh hz (intOf_int h0 h1) a8 a10⟩
  · exact ⟨_, askG_nd hz (intOf_int d0 d1) a10⟩
def sp_law_right (K : PySem.W.Frag) : Sp := fun vs H Q _ => ∃ (l : Addr) (w : Wl), vs = [.ref l] ∧ H l = some w.o ∧ ∀ H', Kp l H H' → Q (.bl true) H'
theorem sp_right_use {K : PySem.W.Frag} {H : Hp} {Q : VK} {E : XK} {l : Addr} {w : Wl} (h : H l = some w.o) (q : ∀ H', Kp l H H' → Q (.bl true) H') : sp_law_right K [.ref l] H Q E := ⟨_, _, rfl, h, q⟩
local macro_rules | `(tactic| kas_types) => `(tactic| ((with_reducible refine' sp_right_use ?h (fun H' kp => ?_)); (case h => kcj_m)))
def t_law_right (K : PySem.W.Frag) : TS :=
  (tSeq (tAsg (tCall (sp_law_draw K) [] E0 (tCons (tVar 0) (tCons (tC (.int 12)) tNil))) (gName 1))
    (tSeq (tAsg (tOp (rIx K) (tLst (tCons (tC (.int 0)) (tCons (tC (.int 1439)) (tCons (tUn (rU fun i => .int (-i)) (tC (.int 1439))) (tCons (tOp (rI0 fun i j => .int (i - j)) (tCall (sp_law_draw K) [] E0 (tCons (tVar 0) (tCons (tC (.int 2879)) tNil))) (tC (.int 1439))) tNil))))) (tCall (sp_law_draw K) [] E0 (tCons (tVar 0) (tCons (tC (.int 4)) tNil)))) (gName 2))
    (tSeq (tAsg (tCall (sp_law_quiet K) [] E0 (tCons (tVar 0) tNil)) (gName 3))
    (tSeq (tAsg (tCall (sp_law_draw K) [] E0 (tCons (tVar 0) (tCons (tC (.int 60)) tNil))) (gName 4))
    (tSeq (tAsg (tCall (sp_law_draw K) [] E0 (tCons (tVar 0) (tCons (tC (.int 1440)) tNil))) (gName 5))
    (tSeq (tAsg (tOp (rI0 fun i j => .int (i - j)) (tCall (sp_law_draw K) [] E0 (tCons (tVar 0) (tCons (tOp (rI CMul fun i j => .int (i * j)) (tC (.int 2)) (tC (.int 10000000000))) tNil))) (tC (.int 10000000000))) (gName 6))
    (tSeq (tAsg (tCall (sp_law_asked K) [] E0 (tCons (tVar 1) (tCons (tVar 2) (tCons (tVar 3) (tCons (tVar 4) (tCons (tVar 5) (tCons (tVar 6) tNil))))))) (gName 7))
    (tSeq (tAsg (tCall (sp_law_bad_zone K) [] E0 (tCons (tVar 0) tNil)) (gName 8))
    (tSeq (tAsg (tCall (sp_law_draw K) [] E0 (tCons (tVar 0) (tCons (tC (.int 3)) tNil))) (gName 9))
    (tSeq (tAsg (tC (.bl true)) (gName 10))
    (Evl.tCut (tIfS (tOr (tTest (tOp rEq (tOp (rI (fun _ j => 0 < j) fun i j => .int (i % j)) (tVar 1) (tC (.int 2))) (tC (.int 0)))) (tTest (tOp (rI0 fun i j => .bl (decide (i < j))) (tVar 1) (tC (.int 2))))) (tAsg (tCall (sp_law_refused K) [] E0 (tCons (tVar 1) (tCons (tVar 8) (tCons (tVar 3) (tCons (tVar 4) (tCons (tVar 5) (tCons (tVar 6) tNil))))))) (gName 10)) tNext)
    (tSeq (tAsg (tOp (rIx K) (tLst (tCons (tVar 2) (tCons (tVar 8) tNil))) (tCB rInt1 (tCons (tOp rEq (tVar 9) (tC (.int 1))) tNil))) (gName 11))
    (Evl.tCut (tIfS (tAnd (tTest (tOp (rI0 fun i j => .bl (decide (j < i))) (tVar 1) (tC (.int 1)))) (tAnd (tTest (tOp (rI0 fun i j => .bl (decide (i < j))) (tVar 1) (tC (.int 8)))) (tOr (tTest (tOp rEq (tOp (rI (fun _ j => 0 < j) fun i j => .int (i % j)) (tVar 1) (tC (.int 2))) (tC (.int 1)))) (tTest (tOp rEq (tVar 9) (tC (.int 0))))))) (tSeq (tAsg (tCall (sp_law_bad_quiet K) [] E0 (tCons (tVar 0) tNil)) (gName 12))
    (tAsg (tAndV (tVar 10) (tCall (sp_law_refused K) [] E0 (tCons (tVar 1) (tCons (tVar 11) (tCons (tVar 12) (tCons (tVar 4) (tCons (tVar 5) (tCons (tVar 6) tNil)))))))) (gName 10))) tNext)
    (Evl.tCut (tIfS (tAnd (tTest (tOp (rI0 fun i j => .bl (decide (j < i))) (tVar 1) (tC (.int 7)))) (tOr (tTest (tOp rEq (tOp (rI (fun _ j => 0 < j) fun i j => .int (i % j)) (tVar 1) (tC (.int 2))) (tC (.int 1)))) (tTest (tOp rEq (tVar 9) (tC (.int 0)))))) (tSeq (tAsg (tLst (tCons (tCall (sp_law_bad_minute K) [] E0 (tCons (tVar 0) (tCons (tC (.int 60)) tNil))) (tCons (tCall (sp_law_bad_minute K) [] E0 (tCons (tVar 0) (tCons (tC (.int 1440)) tNil))) tNil))) (gName 13))
    (tAsg (tAndV (tVar 10) (tCall (sp_law_refused K) [] E0 (tCons (tVar 1) (tCons (tVar 11) (tCons (tVar 3) (tCons (tOp (rIx K) (tVar 13) (tC (.int 0))) (tCons (tOp (rIx K) (tVar 13) (tC (.int 1))) (tCons (tVar 6) tNil)))))))) (gName 10))) tNext)
    (tRet (tAndV (tVar 10) (tOp (rEqD K) (tCall (sp_law_asked K) [] E0 (tCons (tVar 1) (tCons (tVar 2) (tCons (tVar 3) (tCons (tVar 4) (tCons (tVar 5) (tCons (tVar 6) tNil))))))) (tVar 7))))))))))))))))))
theorem run_law_right {K : PySem.W.Frag} {vs : List V} {H : Hp} {Q : VK} {E : XK} (h : sp_law_right K vs H Q E) : t_law_right K (Ends.mk (fun _ H' => Q .non H') Q (fun _ _ => False) (fun _ _ => False)) (start ["_law_well_here", "_law_way", "_law_zone", "_law_quiet_here", "_law_hour", "_law_day", "_law_moment", "_law_told", "_law_bad_zone_here", "_law_second", "_law_refused_here", "_law_other", "_law_odd", "_law_bad"] vs) H := by
  obtain ⟨l, w, rfl, hl, q⟩ := h
  unfold t_law_right
  k_ownIn
  refine r_ixA (fun x => ∃ z : Int, x = .int z ∧ -1439 ≤ z ∧ z ≤ 1439) (by k_places) (by omega) (by simp only [List.length]; omega) ?_ ?_
  · intro x hx
    simp only [List.mem_cons, List.not_mem_nil, or_false] at hx
    rcases hx with rfl | rfl | rfl | rfl <;> exact ⟨_, rfl, by omega, by omega⟩
  · rintro x ⟨z, rfl, z0, z1⟩
    k_ownIn
    rename_i f wf f0 f1 zz wz z0' z1' pl hpl iz wiz iz0 iz1 kq o wq Hq hq gq hlq kpq hh wh h0 h1 dd wd d0 d1 mm wm m0 m1
    have gq1 := gq.kp (l := l) (H' := upd (upd (upd Hq l wh.o) l wd.o) l wm.o) (by k_subL) hlq
    obtain ⟨t, ht⟩ := askG_good (w := f) (m := mm - 10000000000) (h := hh) (d := dd) z0 z1 hq h0 (by omega) d0 (by omega)
    refine sp_asked_kd (.int z) kq (.int hh) (.int dd) trivial gq1.ok trivial trivial (fun _ _ => ⟨_, rfl⟩) (fun d hd vt H1 s1 hv => ?_) (fun hb => by rw [ht] at hb; cases hb)
    rw [ht] at hd
    cases hd
    have hl1 : H1 l = some wm.o := by kcj_m
    have kp1 : Kp l H H1 := by k_subL
    have gq2 := gq1.same s1
    clear gq1 gq hlq hpl kpq s1
    k_ownIn
    rename_i kb wb Hb hb gb hlb kpb sc ws s0 s1
    have g1 := gq2.kp (l := l) (H' := upd Hb l ws.o) (by k_subL) hl1
    have g2 := gb.kp (l := l) (H' := upd Hb l ws.o) (by k_subL) hlb
    have g3 := hv.kp (l := l) (H' := upd Hb l ws.o) (by k_subL) hl1
    have g4 : Kp l H (upd Hb l ws.o) := by k_subL
    have g5 : upd Hb l ws.o l = some ws.o := upd_same
    clear gq2 gb hlb kpb kp1 hl1 hv
    generalize upd Hb l ws.o = H2 at g1 g2 g3 g4 g5
    refine r_cut (fun σ' H' => (∃ w' : Wl, H' l = some w'.o) ∧ σ' = [some (.ref l), some (.int f), some (.int z), some kq.v, some (.int hh), some (.int dd), some (.int (mm - 10000000000)), some vt, some kb.v, some (.int sc), some (.bl true), none, none, none] ∧ Gd l H' kq ∧ Gd l H' kb ∧ VD H' vt t ∧ Kp l H H') ?_ ?_
    · keq_rows
      · intro hc
        k_ownIn
        refine sp_refused_kd kb kq (.int hh) (.int dd) g2.ok.typ g1.ok trivial trivial (fun _ _ => ⟨_, rfl⟩) (askG_zone hb) (fun H3 s3 => ?_)
        k_ownIn
        exact ⟨⟨ws, s3 _ _ g5⟩, rfl, g1.same s3, g2.same s3, g3.same s3, by k_subL⟩
      · intro hc
        k_ownIn
        exact ⟨⟨ws, g5⟩, rfl, g1, g2, g3, g4⟩
    rintro σ2 H3 ⟨⟨w3, e5⟩, rfl, e1, e2, e3, e4⟩
    clear g1 g2 g3 g4 g5
    k_ownIn
    refine r_ixH (fun v H' => ∃ ko : Kd, v = ko.v ∧ Gd l H' ko) (by k_places) (by split <;> omega) (by simp only [List.length]; split <;> omega) ?_ ?_
    · intro x hx
      simp only [List.mem_cons, List.not_mem_nil, or_false] at hx
      rcases hx with rfl | rfl
      · exact ⟨.int _, rfl, Gd.int⟩
      · exact ⟨kb, rfl, e2.same (by k_subL)⟩
    rintro x ⟨ko, rfl, eo⟩
    k_ownIn
    rename_i p4 hp4
    have s4 : Same H3 (upd H3 p4 (.lst [.int z, kb.v])) := by k_subL
    have e1 := e1.same s4
    have e3 := e3.same s4
    have e4 : Kp l H (upd H3 p4 (.lst [.int z, kb.v])) := by k_subL
    have e5 := s4 _ _ e5
    generalize upd H3 p4 (.lst [.int z, kb.v]) = H4 at e1 e3 e4 e5 eo s4
    refine r_cut (fun σ' H' => ∃ v12, (∃ w' : Wl, H' l = some w'.o) ∧ σ' = [some (.ref l), some (.int f), some (.int z), some kq.v, some (.int hh), some (.int dd), some (.int (mm - 10000000000)), some vt, some kb.v, some (.int sc), some (.bl true), some ko.v, v12, none] ∧ Gd l H' kq ∧ Gd l H' ko ∧ VD H' vt t ∧ Kp l H H') ?_ ?_
    · keq_rows
      · intro hc
        k_ownIn
        rename_i kx wx Hx hx gx hlx kpx
        have f1 := e1.kp kpx e5
        have f2 := eo.kp kpx e5
        have f3 := e3.kp kpx e5
        refine sp_refused_kd ko kx (.int hh) (.int dd) f2.ok.typ gx.ok trivial trivial (fun _ _ => ⟨_, rfl⟩) (askG_quiet hx (by omega) (by omega)) (fun H5 s5 => ?_)
        k_ownIn
        exact ⟨_, ⟨wx, s5 _ _ hlx⟩, rfl, f1.same s5, f2.same s5, f3.same s5, by k_subL⟩
      · intro hc
        k_ownIn
        exact ⟨_, ⟨w3, e5⟩, rfl, e1, eo, e3, e4⟩
    clear e1 e2 e3 e4 e5 eo s4
    rintro σ5 H5 ⟨v12, ⟨w5, e5⟩, rfl, e1, eo, e3, e4⟩
    k_ownIn
    refine r_cut (fun σ' H' => ∃ v12 v13, σ' = [some (.ref l), some (.int f), some (.int z), some kq.v, some (.int hh), some (.int dd), some (.int (mm - 10000000000)), some vt, some kb.v, some (.int sc), some (.bl true), some ko.v, v12, v13] ∧ Gd l H' kq ∧ VD H' vt t ∧ Kp l H H') ?_ ?_
    · keq_rows
      · intro hc
        k_ownIn
        rename_i k6 w6 H6 x6 g6 hl6 kp6 k7 w7 H7 x7 g7 hl7 kp7 p7 hp7
        have s7 : Same H7 (upd H7 p7 (.lst [k6.v, k7.v])) := by k_subL
        have f1 := ((e1.kp kp6 e5).kp kp7 hl6).same s7
        have f2 := ((eo.kp kp6 e5).kp kp7 hl6).same s7
        have f3 := ((e3.kp kp6 e5).kp kp7 hl6).same s7
        have f6 := (g6.kp kp7 hl6).same s7
        have f7 := g7.same s7
        refine sp_refused_kd ko kq k6 k7 f2.ok.typ f1.ok f6.ok.typ f7.ok.typ (fun _ _ => by omega) ?_ (fun H5 s5 => ?_)
        · by_cases h10 : f < 10
          · exact askG_hour x6 (by omega) h10
          · exact askG_day x7 h10
        k_ownIn
        exact ⟨_, _, rfl, f1.same s5, f3.same s5, by k_subL⟩
      · intro hc
        k_ownIn
        exact ⟨_, _, rfl, e1, e3, e4⟩
    clear e1 e3 e4 e5 eo
    rintro σ6 H6 ⟨v12, v13, rfl, e1, e3, e4⟩
    k_ownIn
    refine sp_asked_kd (.int z) kq (.int hh) (.int dd) trivial e1.ok trivial trivial (fun _ _ => ⟨_, rfl⟩) (fun d hd vt2 H7 s7 hv => ?_) (fun hb => by rw [ht] at hb; cases hb)
    rw [ht] at hd
    cases hd
    k_ownIn
    refine r_eqDe hv.dp.1 (e3.same s7).dp.1 (hv.dp (K := K)).2 rfl ?_
    k_ownIn
    exact q _ (by k_subL)
theorem len_law_right {K : PySem.W.Frag} {vs : List V} {H : Hp} {Q : VK} {E : XK} (h : sp_law_right K vs H Q E) : vs.length = 1 := by
  first | (obtain ⟨rfl, _⟩ := h; rfl) | (obtain ⟨_, rfl, _⟩ := h; rfl) | (obtain ⟨_, _, rfl, _⟩ := h; rfl) | (obtain ⟨_, _, _, rfl, _⟩ := h; rfl) | (obtain ⟨_, _, _, _, rfl, _⟩ := h; rfl) | (obtain ⟨_, _, _, _, _, rfl, _⟩ := h; rfl) | (obtain ⟨_, _, _, _, _, _, rfl, _⟩ := h; rfl) | (obtain ⟨_, _, _, _, _, _, _, rfl, _⟩ := h; rfl) | (obtain ⟨_, _, _, _, _, _, _, _, rfl, _⟩ := h; rfl) | (obtain ⟨_, _, _, _, _, _, _, _, _, rfl, _⟩ := h; rfl) | (obtain ⟨_, _, _, _, _, _, _, _, _, _, rfl, _⟩ := h; rfl) | (obtain ⟨_, _, _, _, _, _, _, _, _, _, _, rfl, _⟩ := h; rfl) | (obtain ⟨_, _, _, _, _, _, _, _, _, _, _, _, rfl, _⟩ := h; rfl) | (obtain ⟨_, _, _, _, _, _, _, _, _, _, _, _, _, rfl, _⟩ := h; rfl)
/-! ### _law_well -/
def sp_law_well (K : PySem.W.Frag) : Sp := fun vs H Q _ => ∃ (c : Int), vs = [.int c] ∧ ∀ p, H p = none → Q (.ref p) (upd H p (Wl.o ⟨c / 2, c % 2, c % 2147483647, 0⟩))
theorem sp_well_use {K : PySem.W.Frag} {H : Hp} {Q : VK} {E : XK} {c : Int} (q : ∀ p, H p = none → ∀ w : Wl, Q (.ref p) (upd H p w.o)) : sp_law_well K [.int c] H Q E := ⟨_, rfl, fun p hp => q p hp _⟩
local macro_rules | `(tactic| kas_types) => `(tactic| (with_reducible refine sp_well_use (fun p hp w => ?_)))
def t_law_well (K : PySem.W.Frag) : TS :=
  (tRet (tLst (tCons (tOp (rI CDiv fun i j => .int (i / j)) (tVar 0) (tC (.int 2))) (tCons (tOp (rI (fun _ j => 0 < j) fun i j => .int (i % j)) (tVar 0) (tC (.int 2))) (tCons (tOp (rI (fun _ j => 0 < j) fun i j => .int (i % j)) (tVar 0) (tC (.int 2147483647))) (tCons (tC (.int 0)) tNil))))))
theorem run_law_well {K : PySem.W.Frag} {vs : List V} {H : Hp} {Q : VK} {E : XK} (h : sp_law_well K vs H Q E) : t_law_well K (Ends.mk (fun _ H' => Q .non H') Q (fun _ _ => False) (fun _ _ => False)) (start ["_law_cell"] vs) H := by
  obtain ⟨c, rfl, q⟩ := h
  unfold t_law_well
  k_ownIn
  exact q _ (by assumption)
theorem len_law_well {K : PySem.W.Frag} {vs : List V} {H : Hp} {Q : VK} {E : XK} (h : sp_law_well K vs H Q E) : vs.length = 1 := by
  first | (obtain ⟨rfl, _⟩ := h; rfl) | (obtain ⟨_, rfl, _⟩ := h; rfl) | (obtain ⟨_, _, rfl, _⟩ := h; rfl) | (obtain ⟨_, _, _, rfl, _⟩ := h; rfl) | (obtain ⟨_, _, _, _, rfl, _⟩ := h; rfl) | (obtain ⟨_, _, _, _, _, rfl, _⟩ := h; rfl) | (obtain ⟨_, _, _, _, _, _, rfl, _⟩ := h; rfl) | (obtain ⟨_, _, _, _, _, _, _, rfl, _⟩ := h; rfl) | (obtain ⟨_, _, _, _, _, _, _, _, rfl, _⟩ := h; rfl) | (obtain ⟨_, _, _, _, _, _, _, _, _, rfl, _⟩ := h; rfl) | (obtain ⟨_, _, _, _, _, _, _, _, _, _, rfl, _⟩ := h; rfl) | (obtain ⟨_, _, _, _, _, _, _, _, _, _, _, rfl, _⟩ := h; rfl) | (obtain ⟨_, _, _, _, _, _, _, _, _, _, _, _, rfl, _⟩ := h; rfl) | (obtain ⟨_, _, _, _, _, _, _, _, _, _, _, _, _, rfl, _⟩ := h; rfl)
/-! ### law -/
def sp_law (K : PySem.W.Frag) : Sp := fun vs H Q _ => ∃ (a : Addr) (ns : List Int), vs = [.ref a] ∧ SqL K H a (ns.map V.int) ∧ ns.length ≤ 63 ∧ ∀ H', Q (.bl true) H'
def t_law (K : PySem.W.Frag) : TS :=
  (tSeq (tFor (iList K (tOp rCat (tLst (tCons (tCall (sp_law_cell_at K) [] E0 (tCons (tVar 0) (tCons (tC (.int 0)) tNil))) tNil)) (tSl (rSlL K) (tVar 0) (tPart (tC (.int 1))) (tPart (tC (.int 40)))))) (gName 1)
    (tIfS (tNot (tB (tCall (sp_law_right K) [] E0 (tCons (tCall (sp_law_well K) [] E0 (tCons (tVar 1) tNil)) tNil)))) (tRet (tC (.bl false))) tNext))
    (tRet (tC (.bl true))))
theorem run_law {K : PySem.W.Frag} {vs : List V} {H : Hp} {Q : VK} {E : XK} (h : sp_law K vs H Q E) : t_law K (Ends.mk (fun _ H' => Q .non H') Q (fun _ _ => False) (fun _ _ => False)) (start ["_law_script", "_law_cell"] vs) H := by
  obtain ⟨a, ns, rfl, hS, hlen, q⟩ := h
  unfold t_law
  k_ownIn
  refine r_loopL (fun i σ' H' => (∃ v1 : Option V, σ' = [some (.ref a), v1]) ∧ Same _ H') (SqL.of upd_same) ⟨⟨_, rfl⟩, Same.refl _⟩ (fun i σ' H' p => Same.seq p.2 (SqL.of upd_same)) ?_ ?_
  · rintro i x σ' H' N hx ⟨⟨v1, rfl⟩, hs⟩ hN
    obtain ⟨c, rfl⟩ := cells_int (List.mem_of_getElem? hx)
    generalize upd (upd (upd H _ _) _ _) _ _ = H1 at hs hN
    k_ownIn
    kpt_turns
    k_ownIn
    exact hN _ _ ⟨⟨_, rfl⟩, Same.ofKp hs (by assumption) (by k_subL)⟩
  · rintro σ' H' ⟨⟨v1, rfl⟩, hs⟩
    k_ownIn
    exact q _
theorem len_law {K : PySem.W.Frag} {vs : List V} {H : Hp} {Q : VK} {E : XK} (h : sp_law K vs H Q E) : vs.length = 1 := by
  first | (obtain ⟨rfl, _⟩ := h; rfl) | (obtain ⟨_, rfl, _⟩ := h; rfl) | (obtain ⟨_, _, rfl, _⟩ := h; rfl) | (obtain ⟨_, _, _, rfl, _⟩ := h; rfl) | (obtain ⟨_, _, _, _, rfl, _⟩ := h; rfl) | (obtain ⟨_, _, _, _, _, rfl, _⟩ := h; rfl) | (obtain ⟨_, _, _, _, _, _, rfl, _⟩ := h; rfl) | (obtain ⟨_, _, _, _, _, _, _, rfl, _⟩ := h; rfl) | (obtain ⟨_, _, _, _, _, _, _, _, rfl, _⟩ := h; rfl) | (obtain ⟨_, _, _, _, _, _, _, _, _, rfl, _⟩ := h; rfl) | (obtain ⟨_, _, _, _, _, _, _, _, _, _, rfl, _⟩ := h; rfl) | (obtain ⟨_, _, _, _, _, _, _, _, _, _, _, rfl, _⟩ := h; rfl) | (obtain ⟨_, _, _, _, _, _, _, _, _, _, _, _, rfl, _⟩ := h; rfl) | (obtain ⟨_, _, _, _, _, _, _, _, _, _, _, _, _, rfl, _⟩ := h; rfl)
section
variable {P : Program} {w : World} {K : PySem.W.Frag} {mg : Str → Option Value} {base : Heap}
theorem sc_law_cell_at : FnScope ["_law_script", "_law_k"] ["_law_script", "_law_k"] (defScope s_law_cell_at) := ⟨rfl, rfl, rfl, by decide +kernel, rfl, by decide +kernel, by decide +kernel⟩
theorem okA_law_cell_at (Z : Env K mg) {fd : FuncData} (F : FunD K d_law_cell_at.name d_law_cell_at.qual d_law_cell_at.params d_law_cell_at.body d_law_cell_at.scope (d_law_cell_at.dvs K) (d_law_cell_at.kws K) (fAd K d_law_cell_at.at_) fd) : FnOk P w K mg base CX0 1 (ga K "_law_cell_at") fd ["_law_script", "_law_k"] (sp_law_cell_at K) := by
  have z_len := Z.free 0 (x := "len") rfl
  refine F.ok (CX := CX0) sc_law_cell_at (fun vs H Q E h => len_law_cell_at h) (fun cdv A outer s H vs Q E hr h => ⟨t_law_cell_at K, PSs.nox ?_, run_law_cell_at h⟩)
  exact (pss_cons (ps_if (pt_cmpR op_lt (pv 1) (pe_callB call_len (by rfl) z_len (by decide +kernel) (pa_cons (pv 0) pa_nil)) (nomark _)) (pss_one (ps_ret (pe_ix ix_seq (pv 0) (pv 1) (fun _ _ => rfl)))) pss_nil)
    (pss_one (ps_ret pe_int)))
theorem ok_law_cell_at (Z : Env K mg) : ∃ fd, FnOk P w K mg base CX0 1 (ga K "_law_cell_at") fd ["_law_script", "_law_k"] (sp_law_cell_at K) ∧ Binds K fd ["_law_script", "_law_k"] [] ∧ PySem.W.keepIn K (.ref (ga K "_law_cell_at")) = true := by
  obtain ⟨fd, F⟩ := Z.c.def_ 0 (d := d_law_cell_at) rfl
  exact ⟨fd, okA_law_cell_at Z F, F.bindsN fun _ _ _ _ _ _ us hl => match us, hl with | [_, _], _ => rfl, F.kp⟩
theorem sc_law_mixed : FnScope ["_law_cell", "_law_k", "_law_number"] ["_law_cell", "_law_k"] (defScope s_law_mixed) := ⟨rfl, rfl, rfl, by decide +kernel, rfl, by decide +kernel, by decide +kernel⟩
theorem okA_law_mixed (Z : Env K mg) {fd : FuncData} (F : FunD K d_law_mixed.name d_law_mixed.qual d_law_mixed.params d_law_mixed.body d_law_mixed.scope (d_law_mixed.dvs K) (d_law_mixed.kws K) (fAd K d_law_mixed.at_) fd) : FnOk P w K mg base CX0 1 (ga K "_law_mixed") fd ["_law_cell", "_law_k"] (sp_law_mixed K) := by
  refine F.ok (CX := CX0) sc_law_mixed (fun vs H Q E h => len_law_mixed h) (fun cdv A outer s H vs Q E hr h => ⟨t_law_mixed K, PSs.nox ?_, run_law_mixed h⟩)
  exact (pss_cons (ps_set (i := 2) sc_law_mixed.nd rfl (Or.inl rfl) (pe_op op_mod (pe_op op_mul (pe_op op_add (pe_op op_add (pv 0) (pe_op op_mul pe_int (pv 1))) pe_int) pe_int) pe_int))
    (pss_cons (ps_set (i := 2) sc_law_mixed.nd rfl (Or.inl rfl) (pe_op op_mod (pe_op op_mul (pv 2) (pe_op op_add (pe_op op_fdiv (pv 2) pe_int) pe_int)) pe_int))
    (pss_one (ps_ret (pe_op op_mod (pe_op op_mul (pv 2) (pe_op op_add (pe_op op_add (pe_op op_fdiv (pv 2) pe_int) pe_int) (pv 1))) pe_int)))))
theorem ok_law_mixed (Z : Env K mg) : ∃ fd, FnOk P w K mg base CX0 1 (ga K "_law_mixed") fd ["_law_cell", "_law_k"] (sp_law_mixed K) ∧ Binds K fd ["_law_cell", "_law_k"] [] ∧ PySem.W.keepIn K (.ref (ga K "_law_mixed")) = true := by
  obtain ⟨fd, F⟩ := Z.c.def_ 1 (d := d_law_mixed) rfl
  exact ⟨fd, okA_law_mixed Z F, F.bindsN fun _ _ _ _ _ _ us hl => match us, hl with | [_, _], _ => rfl, F.kp⟩
theorem sc_law_draw : FnScope ["_law_well_here", "_law_most", "_law_found", "_law_turn"] ["_law_well_here", "_law_most"] (defScope s_law_draw) := ⟨rfl, rfl, rfl, by decide +kernel, rfl, by decide +kernel, by decide +kernel⟩
theorem okA_law_draw (Z : Env K mg) {fd : FuncData} (F : FunD K d_law_draw.name d_law_draw.qual d_law_draw.params d_law_draw.body d_law_draw.scope (d_law_draw.dvs K) (d_law_draw.kws K) (fAd K d_law_draw.at_) fd) : FnOk P w K mg base CX0 2 (ga K "_law_draw") fd ["_law_well_here", "_law_most"] (sp_law_draw K) := by
  obtain ⟨fd_law_mixed, G_law_mixed, b_law_mixed, k_law_mixed⟩ := ok_law_mixed (P := P) (w := w) (base := base) Z
  have g__law_mixed := Z.glo 1 (x := "_law_mixed") rfl
  have z_int := Z.free 2 (x := "int") rfl
  have z_range := Z.free 3 (x := "range") rfl
  refine F.ok (CX := CX0) sc_law_draw (fun vs H Q E h => len_law_draw h) (fun cdv A outer s H vs Q E hr h => ⟨t_law_draw K, PSs.nox ?_, run_law_draw h⟩)
  exact (pss_cons (ps_if (PW.pt (pw_and (pt_cmpR op_eq (pe_ix ix_seq (pv 0) pe_int (fun _ _ => rfl)) pe_int (nomark _)) (pw_and1 (pt_cmpR op_gt (pe_ix ix_seq (pv 0) pe_int (fun _ _ => rfl)) pe_int (nomark _))))) (pss_cons (ps_set (i := 2) sc_law_draw.nd rfl (Or.inl rfl) (pe_op op_mod (pe_ix ix_seq (pv 0) pe_int (fun _ _ => rfl)) (pv 1)))
    (pss_cons (ps_asg (pe_op op_fdivW (pe_ix ix_seq (pv 0) pe_int (fun _ _ => rfl)) (pv 1)) (pg_sub (pv 0) pe_int set_list))
    (pss_one (ps_ret (pv 2))))) pss_nil)
    (pss_cons (ps_set (i := 2) sc_law_draw.nd rfl (Or.inl rfl) pe_int)
    (pss_cons (ps_for PassesOwn.never rfl (pi_range1 rfl z_range (pa_cons (pe_op op_add pe_int (pe_op op_mul pe_int (pe_callTy call_int1 (by rfl) z_int (by decide +kernel) (pa_cons (pe_cmpR op_gt (pv 1) (pe_pow2 (r := 1000000) (by decide) ⟨by decide, by decide, by decide⟩) (nomark _)) pa_nil)))) pa_nil)) (pg_name (i := 3) sc_law_draw.nd rfl (Or.inl rfl))
    (pss_cons (ps_asg (pe_op op_add (pe_ix ix_seq (pv 0) pe_int (fun _ _ => rfl)) pe_int) (pg_sub (pv 0) pe_int set_list))
    (pss_one (ps_set (i := 2) sc_law_draw.nd rfl (Or.inl rfl) (pe_op op_add (pe_op op_mul (pv 2) pe_int) (pe_call G_law_mixed (hr.mono (by decide)) rfl g__law_mixed k_law_mixed b_law_mixed .nil pass0 (pa_cons (pe_ix ix_seq (pv 0) pe_int (fun _ _ => rfl)) (pa_cons (pe_ix ix_seq (pv 0) pe_int (fun _ _ => rfl)) pa_nil))))))))
    (pss_one (ps_ret (pe_op op_mod (pv 2) (pv 1)))))))
theorem ok_law_draw (Z : Env K mg) : ∃ fd, FnOk P w K mg base CX0 2 (ga K "_law_draw") fd ["_law_well_here", "_law_most"] (sp_law_draw K) ∧ Binds K fd ["_law_well_here", "_law_most"] [] ∧ PySem.W.keepIn K (.ref (ga K "_law_draw")) = true := by
  obtain ⟨fd, F⟩ := Z.c.def_ 2 (d := d_law_draw) rfl
  exact ⟨fd, okA_law_draw Z F, F.bindsN fun _ _ _ _ _ _ us hl => match us, hl with | [_, _], _ => rfl, F.kp⟩
theorem sc_law_quiet : FnScope ["_law_well_here", "_law_start", "_law_quiet_here"] ["_law_well_here"] (defScope s_law_quiet) := ⟨rfl, rfl, rfl, by decide +kernel, rfl, by decide +kernel, by decide +kernel⟩
theorem okA_law_quiet (Z : Env K mg) {fd : FuncData} (F : FunD K d_law_quiet.name d_law_quiet.qual d_law_quiet.params d_law_quiet.body d_law_quiet.scope (d_law_quiet.dvs K) (d_law_quiet.kws K) (fAd K d_law_quiet.at_) fd) : FnOk P w K mg base CX0 3 (ga K "_law_quiet") fd ["_law_well_here"] (sp_law_quiet K) := by
  obtain ⟨fd_law_draw, G_law_draw, b_law_draw, k_law_draw⟩ := ok_law_draw (P := P) (w := w) (base := base) Z
  have g__law_draw := Z.glo 4 (x := "_law_draw") rfl
  refine F.ok (CX := CX0) sc_law_quiet (fun vs H Q E h => len_law_quiet h) (fun cdv A outer s H vs Q E hr h => ⟨t_law_quiet K, PSs.nox ?_, run_law_quiet h⟩)
  exact (pss_cons (ps_set (i := 1) sc_law_quiet.nd rfl (Or.inl rfl) (pe_ix ix_seq (pe_lst (pa_cons pe_int (pa_cons pe_int (pa_cons (pe_call G_law_draw (hr.mono (by decide)) rfl g__law_draw k_law_draw b_law_draw .nil pass0 (pa_cons (pv 0) (pa_cons pe_int pa_nil))) pa_nil)))) (pe_call G_law_draw (hr.mono (by decide)) rfl g__law_draw k_law_draw b_law_draw .nil pass0 (pa_cons (pv 0) (pa_cons pe_int pa_nil))) (fun _ _ => rfl)))
    (pss_cons (ps_set (i := 2) sc_law_quiet.nd rfl (Or.inl rfl) (pe_tup (pa_cons (pv 1) (pa_cons (pe_op op_mod (pe_op op_add (pe_op op_add (pv 1) pe_int) (pe_call G_law_draw (hr.mono (by decide)) rfl g__law_draw k_law_draw b_law_draw .nil pass0 (pa_cons (pv 0) (pa_cons pe_int pa_nil)))) pe_int) pa_nil))))
    (pss_one (ps_ret (pe_ix ix_seq (pe_lst (pa_cons (pv 2) (pa_cons (pv 2) (pa_cons (pv 2) (pa_cons pe_non pa_nil))))) (pe_call G_law_draw (hr.mono (by decide)) rfl g__law_draw k_law_draw b_law_draw .nil pass0 (pa_cons (pv 0) (pa_cons pe_int pa_nil))) (fun _ _ => rfl))))))
theorem ok_law_quiet (Z : Env K mg) : ∃ fd, FnOk P w K mg base CX0 3 (ga K "_law_quiet") fd ["_law_well_here"] (sp_law_quiet K) ∧ Binds K fd ["_law_well_here"] [] ∧ PySem.W.keepIn K (.ref (ga K "_law_quiet")) = true := by
  obtain ⟨fd, F⟩ := Z.c.def_ 3 (d := d_law_quiet) rfl
  exact ⟨fd, okA_law_quiet Z F, F.bindsN fun _ _ _ _ _ _ us hl => match us, hl with | [_], _ => rfl, F.kp⟩
theorem sc_is_whole : FnScope ["thing"] ["thing"] (defScope s_is_whole) := ⟨rfl, rfl, rfl, by decide +kernel, rfl, by decide +kernel, by decide +kernel⟩
theorem okA_is_whole (Z : Env K mg) {fd : FuncData} (F : FunD K d_is_whole.name d_is_whole.qual d_is_whole.params d_is_whole.body d_is_whole.scope (d_is_whole.dvs K) (d_is_whole.kws K) (fAd K d_is_whole.at_) fd) : FnOk P w K mg base CX0 1 (ga K "is_whole") fd ["thing"] (sp_is_whole K) := by
  have z_bool := Z.free 5 (x := "bool") rfl
  have z_int := Z.free 2 (x := "int") rfl
  have z_isinstance := Z.free 6 (x := "isinstance") rfl
  refine F.ok (CX := CX0) sc_is_whole (fun vs H Q E h => len_is_whole h) (fun cdv A outer s H vs Q E hr h => ⟨t_is_whole K, PSs.nox ?_, run_is_whole h⟩)
  exact (pss_one (ps_ret (pe_and (pe_callB call_isi (by rfl) z_isinstance (by decide +kernel) (pa_cons (pv 0) (pa_cons (pe_bltn (v := .ty "int") (by rfl) z_int (by decide +kernel) rfl) pa_nil))) (pe_one (pe_not (pe_callB call_isi (by rfl) z_isinstance (by decide +kernel) (pa_cons (pv 0) (pa_cons (pe_bltn (v := .ty "bool") (by rfl) z_bool (by decide +kernel) rfl) pa_nil))))))))
theorem ok_is_whole (Z : Env K mg) : ∃ fd, FnOk P w K mg base CX0 1 (ga K "is_whole") fd ["thing"] (sp_is_whole K) ∧ Binds K fd ["thing"] [] ∧ PySem.W.keepIn K (.ref (ga K "is_whole")) = true := by
  obtain ⟨fd, F⟩ := Z.c.def_ 4 (d := d_is_whole) rfl
  exact ⟨fd, okA_is_whole Z F, F.bindsN fun _ _ _ _ _ _ us hl => match us, hl with | [_], _ => rfl, F.kp⟩
theorem sc_is_between : FnScope ["thing", "low", "high"] ["thing", "low", "high"] (defScope s_is_between) := ⟨rfl, rfl, rfl, by decide +kernel, rfl, by decide +kernel, by decide +kernel⟩
theorem okA_is_between (Z : Env K mg) {fd : FuncData} (F : FunD K d_is_between.name d_is_between.qual d_is_between.params d_is_between.body d_is_between.scope (d_is_between.dvs K) (d_is_between.kws K) (fAd K d_is_between.at_) fd) : FnOk P w K mg base CX0 2 (ga K "is_between") fd ["thing", "low", "high"] (sp_is_between K) := by
  obtain ⟨fd_is_whole, G_is_whole, b_is_whole, k_is_whole⟩ := ok_is_whole (P := P) (w := w) (base := base) Z
  have g_is_whole := Z.glo 7 (x := "is_whole") rfl
  refine F.ok (CX := CX0) sc_is_between (fun vs H Q E h => len_is_between h) (fun cdv A outer s H vs Q E hr h => ⟨t_is_between K, PSs.nox ?_, run_is_between h⟩)
  exact (pss_one (ps_ret (pe_and (pe_call G_is_whole (hr.mono (by decide)) rfl g_is_whole k_is_whole b_is_whole .nil pass0 (pa_cons (pv 0) pa_nil)) (pe_one (pe_chain op_le op_le (pv 1) (pv 0) (pv 2))))))
theorem ok_is_between (Z : Env K mg) : ∃ fd, FnOk P w K mg base CX0 2 (ga K "is_between") fd ["thing", "low", "high"] (sp_is_between K) ∧ Binds K fd ["thing", "low", "high"] [] ∧ PySem.W.keepIn K (.ref (ga K "is_between")) = true := by
  obtain ⟨fd, F⟩ := Z.c.def_ 5 (d := d_is_between) rfl
  exact ⟨fd, okA_is_between Z F, F.bindsN fun _ _ _ _ _ _ us hl => match us, hl with | [_, _, _], _ => rfl, F.kp⟩
theorem sc_sure_minute : FnScope ["minute", "many"] ["minute", "many"] (defScope s_sure_minute) := ⟨rfl, rfl, rfl, by decide +kernel, rfl, by decide +kernel, by decide +kernel⟩
theorem okA_sure_minute (Z : Env K mg) {fd : FuncData} (F : FunD K d_sure_minute.name d_sure_minute.qual d_sure_minute.params d_sure_minute.body d_sure_minute.scope (d_sure_minute.dvs K) (d_sure_minute.kws K) (fAd K d_sure_minute.at_) fd) : FnOk P w K mg base (L2.CX P w) 3 (ga K "sure_minute") fd ["minute", "many"] (sp_sure_minute K) := by
  obtain ⟨fd_is_between, G_is_between, b_is_between, k_is_between⟩ := ok_is_between (P := P) (w := w) (base := base) Z
  have g_NoClock := Z.glo 8 (x := "NoClock") rfl
  have g_is_between := Z.glo 9 (x := "is_between") rfl
  have x_NoClock := exc_ok (Z.c.fact 10 (f := .exc "NoClock") rfl)
  refine F.ok (CX := (L2.CX P w)) sc_sure_minute (fun vs H Q E h => len_sure_minute h) (fun cdv A outer s H vs Q E hr h => ⟨t_sure_minute K E, ?_, run_sure_minute h⟩)
  exact (pss_one (ps_if (pt_not (pt_val (pe_call G_is_between (hr.mono (by decide)) rfl g_is_between k_is_between b_is_between .nil pass0 (pa_cons (pv 0) (pa_cons pe_int (pa_cons (pe_op op_sub (pv 1) pe_int) pa_nil)))))) (pss_one (ps_raise rfl (takes_of rfl rfl rfl rfl) (pmk_own PySem.F.excBase_ValueError x_NoClock.1 g_NoClock x_NoClock.2.1 (raises_own x_NoClock.2.2.1 x_NoClock.2.2.2) (by exact rfl)))) pss_nil))
theorem ok_sure_minute (Z : Env K mg) : ∃ fd, FnOk P w K mg base (L2.CX P w) 3 (ga K "sure_minute") fd ["minute", "many"] (sp_sure_minute K) ∧ Binds K fd ["minute", "many"] [] ∧ PySem.W.keepIn K (.ref (ga K "sure_minute")) = true := by
  obtain ⟨fd, F⟩ := Z.c.def_ 6 (d := d_sure_minute) rfl
  exact ⟨fd, okA_sure_minute Z F, F.bindsN fun _ _ _ _ _ _ us hl => match us, hl with | [_, _], _ => rfl, F.kp⟩
theorem sc_sure_zone : FnScope ["zone"] ["zone"] (defScope s_sure_zone) := ⟨rfl, rfl, rfl, by decide +kernel, rfl, by decide +kernel, by decide +kernel⟩
theorem okA_sure_zone (Z : Env K mg) {fd : FuncData} (F : FunD K d_sure_zone.name d_sure_zone.qual d_sure_zone.params d_sure_zone.body d_sure_zone.scope (d_sure_zone.dvs K) (d_sure_zone.kws K) (fAd K d_sure_zone.at_) fd) : FnOk P w K mg base (L2.CX P w) 3 (ga K "sure_zone") fd ["zone"] (sp_sure_zone K) := by
  obtain ⟨fd_is_between, G_is_between, b_is_between, k_is_between⟩ := ok_is_between (P := P) (w := w) (base := base) Z
  have g_NoClock := Z.glo 8 (x := "NoClock") rfl
  have g_is_between := Z.glo 9 (x := "is_between") rfl
  have g_DAY := Z.int 11 (x := "DAY") (i := 1440) rfl
  have x_NoClock := exc_ok (Z.c.fact 10 (f := .exc "NoClock") rfl)
  refine F.ok (CX := (L2.CX P w)) sc_sure_zone (fun vs H Q E h => len_sure_zone h) (fun cdv A outer s H vs Q E hr h => ⟨t_sure_zone K E, ?_, run_sure_zone h⟩)
  exact (pss_one (ps_if (pt_not (pt_val (pe_call G_is_between (hr.mono (by decide)) rfl g_is_between k_is_between b_is_between .nil pass0 (pa_cons (pv 0) (pa_cons (pe_op op_sub pe_int (pe_glob rfl (Classical.choose_spec g_DAY) ⟨_, rfl⟩)) (pa_cons (pe_op op_sub (pe_glob rfl (Classical.choose_spec g_DAY) ⟨_, rfl⟩) pe_int) pa_nil)))))) (pss_one (ps_raise rfl (takes_of rfl rfl rfl rfl) (pmk_own PySem.F.excBase_ValueError x_NoClock.1 g_NoClock x_NoClock.2.1 (raises_own x_NoClock.2.2.1 x_NoClock.2.2.2) (by exact rfl)))) pss_nil))
theorem ok_sure_zone (Z : Env K mg) : ∃ fd, FnOk P w K mg base (L2.CX P w) 3 (ga K "sure_zone") fd ["zone"] (sp_sure_zone K) ∧ Binds K fd ["zone"] [] ∧ PySem.W.keepIn K (.ref (ga K "sure_zone")) = true := by
  obtain ⟨fd, F⟩ := Z.c.def_ 7 (d := d_sure_zone) rfl
  exact ⟨fd, okA_sure_zone Z F, F.bindsN fun _ _ _ _ _ _ us hl => match us, hl with | [_], _ => rfl, F.kp⟩
theorem sc_shown : FnScope ["moment", "zone"] ["moment", "zone"] (defScope s_shown) := ⟨rfl, rfl, rfl, by decide +kernel, rfl, by decide +kernel, by decide +kernel⟩
theorem okA_shown (Z : Env K mg) {fd : FuncData} (F : FunD K d_shown.name d_shown.qual d_shown.params d_shown.body d_shown.scope (d_shown.dvs K) (d_shown.kws K) (fAd K d_shown.at_) fd) : FnOk P w K mg base (L2.CX P w) 4 (ga K "shown") fd ["moment", "zone"] (sp_shown K) := by
  obtain ⟨fd_sure_zone, G_sure_zone, b_sure_zone, k_sure_zone⟩ := ok_sure_zone (P := P) (w := w) (base := base) Z
  have g_sure_zone := Z.glo 12 (x := "sure_zone") rfl
  have z_divmod := Z.free 13 (x := "divmod") rfl
  have g_DAY := Z.int 11 (x := "DAY") (i := 1440) rfl
  refine F.ok (CX := (L2.CX P w)) sc_shown (fun vs H Q E h => len_shown h) (fun cdv A outer s H vs Q E hr h => ⟨t_shown K E, ?_, run_shown h⟩)
  exact (pss_cons (ps_expr (pe_call G_sure_zone (hr.mono (by decide)) rfl g_sure_zone k_sure_zone b_sure_zone .nil (passes_call (takes_of rfl rfl rfl rfl) (fun _ _ _ _ h => h)) (pa_cons (pv 1) pa_nil)))
    (pss_one (ps_ret (pe_callB call_divmod (by rfl) z_divmod (by decide +kernel) (pa_cons (pe_op op_add (pv 0) (pv 1)) (pa_cons (pe_glob rfl (Classical.choose_spec g_DAY) ⟨_, rfl⟩) pa_nil))))))
theorem ok_shown (Z : Env K mg) : ∃ fd, FnOk P w K mg base (L2.CX P w) 4 (ga K "shown") fd ["moment", "zone"] (sp_shown K) ∧ Binds K fd ["moment", "zone"] [] ∧ PySem.W.keepIn K (.ref (ga K "shown")) = true := by
  obtain ⟨fd, F⟩ := Z.c.def_ 8 (d := d_shown) rfl
  exact ⟨fd, okA_shown Z F, F.bindsN fun _ _ _ _ _ _ us hl => match us, hl with | [_, _], _ => rfl, F.kp⟩
theorem sc_next_day : FnScope ["minute", "zone", "moment"] ["minute", "zone", "moment"] (defScope s_next_day) := ⟨rfl, rfl, rfl, by decide +kernel, rfl, by decide +kernel, by decide +kernel⟩
theorem okA_next_day (Z : Env K mg) {fd : FuncData} (F : FunD K d_next_day.name d_next_day.qual d_next_day.params d_next_day.body d_next_day.scope (d_next_day.dvs K) (d_next_day.kws K) (fAd K d_next_day.at_) fd) : FnOk P w K mg base (L2.CX P w) 5 (ga K "next_day") fd ["minute", "zone", "moment"] (sp_next_day K) := by
  obtain ⟨fd_shown, G_shown, b_shown, k_shown⟩ := ok_shown (P := P) (w := w) (base := base) Z
  obtain ⟨fd_sure_minute, G_sure_minute, b_sure_minute, k_sure_minute⟩ := ok_sure_minute (P := P) (w := w) (base := base) Z
  have g_shown := Z.glo 14 (x := "shown") rfl
  have g_sure_minute := Z.glo 15 (x := "sure_minute") rfl
  have g_DAY := Z.int 11 (x := "DAY") (i := 1440) rfl
  refine F.ok (CX := (L2.CX P w)) sc_next_day (fun vs H Q E h => len_next_day h) (fun cdv A outer s H vs Q E hr h => ⟨t_next_day K E, ?_, run_next_day h⟩)
  exact (pss_cons (ps_expr (pe_call G_sure_minute (hr.mono (by decide)) rfl g_sure_minute k_sure_minute b_sure_minute .nil (passes_call (takes_of rfl rfl rfl rfl) (fun _ _ _ _ h => h)) (pa_cons (pv 0) (pa_cons (pe_glob rfl (Classical.choose_spec g_DAY) ⟨_, rfl⟩) pa_nil))))
    (pss_one (ps_ret (pe_op op_add (pv 2) (pe_op op_mod (pe_op op_sub (pv 0) (pe_ix ix_seq (pe_call G_shown (hr.mono (by decide)) rfl g_shown k_shown b_shown .nil (passes_call (takes_of rfl rfl rfl rfl) (fun _ _ _ _ h => h)) (pa_cons (pv 2) (pa_cons (pv 1) pa_nil))) pe_int (fun _ _ => rfl))) (pe_glob rfl (Classical.choose_spec g_DAY) ⟨_, rfl⟩))))))
theorem ok_next_day (Z : Env K mg) : ∃ fd, FnOk P w K mg base (L2.CX P w) 5 (ga K "next_day") fd ["minute", "zone", "moment"] (sp_next_day K) ∧ Binds K fd ["minute", "zone", "moment"] [] ∧ PySem.W.keepIn K (.ref (ga K "next_day")) = true := by
  obtain ⟨fd, F⟩ := Z.c.def_ 9 (d := d_next_day) rfl
  exact ⟨fd, okA_next_day Z F, F.bindsN fun _ _ _ _ _ _ us hl => match us, hl with | [_, _, _], _ => rfl, F.kp⟩
theorem sc_sure_quiet : FnScope ["quiet", "minute"] ["quiet"] (defScope s_sure_quiet) := ⟨rfl, rfl, rfl, by decide +kernel, rfl, by decide +kernel, by decide +kernel⟩
theorem okA_sure_quiet (Z : Env K mg) {fd : FuncData} (F : FunD K d_sure_quiet.name d_sure_quiet.qual d_sure_quiet.params d_sure_quiet.body d_sure_quiet.scope (d_sure_quiet.dvs K) (d_sure_quiet.kws K) (fAd K d_sure_quiet.at_) fd) : FnOk P w K mg base (L2.CX P w) 3 (ga K "sure_quiet") fd ["quiet"] (sp_sure_quiet K) := by
  obtain ⟨fd_is_between, G_is_between, b_is_between, k_is_between⟩ := ok_is_between (P := P) (w := w) (base := base) Z
  have g_NoClock := Z.glo 8 (x := "NoClock") rfl
  have g_is_between := Z.glo 9 (x := "is_between") rfl
  have z_all := Z.free 16 (x := "all") rfl
  have z_isinstance := Z.free 6 (x := "isinstance") rfl
  have z_len := Z.free 0 (x := "len") rfl
  have z_tuple := Z.free 17 (x := "tuple") rfl
  have g_DAY := Z.int 11 (x := "DAY") (i := 1440) rfl
  have x_NoClock := exc_ok (Z.c.fact 10 (f := .exc "NoClock") rfl)
  refine F.ok (CX := (L2.CX P w)) sc_sure_quiet (fun vs H Q E h => len_sure_quiet h) (fun cdv A outer s H vs Q E hr h => ⟨t_sure_quiet K E, ?_, run_sure_quiet h⟩)
  exact (pss_cons (ps_if (pt_cmpR op_isN (pv 0) pe_non (nomark _)) (pss_one ps_retN) pss_nil)
    (pss_cons (ps_if (PW.pt (pw_or (pt_not (pt_val (pe_callB call_isi (by rfl) z_isinstance (by decide +kernel) (pa_cons (pv 0) (pa_cons (pe_bltn (v := .ty "tuple") (by rfl) z_tuple (by decide +kernel) rfl) pa_nil))))) (pw_or1 (pt_cmpR op_ne (pe_callB call_len (by rfl) z_len (by decide +kernel) (pa_cons (pv 0) pa_nil)) pe_int (nomark _))))) (pss_one (ps_raise rfl (takes_of rfl rfl rfl rfl) (pmk_own PySem.F.excBase_ValueError x_NoClock.1 g_NoClock x_NoClock.2.1 (raises_own x_NoClock.2.2.1 x_NoClock.2.2.2) (by exact rfl)))) pss_nil)
    (pss_one (ps_if (PW.pt (pw_or (pt_not (pt_val (pe_callB (cr_all rfl) (by rfl) z_all (by decide +kernel) (pa_cons (pe_lc (own := [("minute", 1)]) (g := gName 1) (tt := tYes) rfl sc_sure_quiet.nd (pi_tup (pv 0)) (blkOk_by (own := [("minute", 1)]) (N := ["quiet", "minute"]) (sc := defScope s_sure_quiet) (by decide +kernel)) (fun _ _ _ _ _ => pg_name (i := 1) sc_sure_quiet.nd rfl (Or.inl rfl)) (fun _ _ _ _ _ => pts_nil) (fun _ _ _ _ _ => (pe_call G_is_between (hr.mono (by decide)) rfl g_is_between k_is_between b_is_between .nil pass0 (pa_cons (pv 1) (pa_cons pe_int (pa_cons (pe_op op_sub (pe_glob rfl (Classical.choose_spec g_DAY) ⟨_, rfl⟩) pe_int) pa_nil)))))) pa_nil)))) (pw_or1 (pt_cmpR op_eq (pe_ix ix_seq (pv 0) pe_int (fun _ _ => rfl)) (pe_ix ix_seq (pv 0) pe_int (fun _ _ => rfl)) (nomark _))))) (pss_one (ps_raise rfl (takes_of rfl rfl rfl rfl) (pmk_own PySem.F.excBase_ValueError x_NoClock.1 g_NoClock x_NoClock.2.1 (raises_own x_NoClock.2.2.1 x_NoClock.2.2.2) (by exact rfl)))) pss_nil))))
theorem ok_sure_quiet (Z : Env K mg) : ∃ fd, FnOk P w K mg base (L2.CX P w) 3 (ga K "sure_quiet") fd ["quiet"] (sp_sure_quiet K) ∧ Binds K fd ["quiet"] [] ∧ PySem.W.keepIn K (.ref (ga K "sure_quiet")) = true := by
  obtain ⟨fd, F⟩ := Z.c.def_ 10 (d := d_sure_quiet) rfl
  exact ⟨fd, okA_sure_quiet Z F, F.bindsN fun _ _ _ _ _ _ us hl => match us, hl with | [_], _ => rfl, F.kp⟩
theorem sc_is_quiet : FnScope ["quiet", "zone", "moment", "day", "minute", "start", "end"] ["quiet", "zone", "moment"] (defScope s_is_quiet) := ⟨rfl, rfl, rfl, by decide +kernel, rfl, by decide +kernel, by decide +kernel⟩
theorem okA_is_quiet (Z : Env K mg) {fd : FuncData} (F : FunD K d_is_quiet.name d_is_quiet.qual d_is_quiet.params d_is_quiet.body d_is_quiet.scope (d_is_quiet.dvs K) (d_is_quiet.kws K) (fAd K d_is_quiet.at_) fd) : FnOk P w K mg base (L2.CX P w) 5 (ga K "is_quiet") fd ["quiet", "zone", "moment"] (sp_is_quiet K) := by
  obtain ⟨fd_shown, G_shown, b_shown, k_shown⟩ := ok_shown (P := P) (w := w) (base := base) Z
  obtain ⟨fd_sure_quiet, G_sure_quiet, b_sure_quiet, k_sure_quiet⟩ := ok_sure_quiet (P := P) (w := w) (base := base) Z
  have g_shown := Z.glo 14 (x := "shown") rfl
  have g_sure_quiet := Z.glo 18 (x := "sure_quiet") rfl
  refine F.ok (CX := (L2.CX P w)) sc_is_quiet (fun vs H Q E h => len_is_quiet h) (fun cdv A outer s H vs Q E hr h => ⟨t_is_quiet K E, ?_, run_is_quiet h⟩)
  exact (pss_cons (ps_expr (pe_call G_sure_quiet (hr.mono (by decide)) rfl g_sure_quiet k_sure_quiet b_sure_quiet .nil (passes_call (takes_of rfl rfl rfl rfl) (fun _ _ _ _ h => h)) (pa_cons (pv 0) pa_nil)))
    (pss_cons (ps_asg (pe_call G_shown (hr.mono (by decide)) rfl g_shown k_shown b_shown .nil (passes_call (takes_of rfl rfl rfl rfl) (fun _ _ _ _ h => h)) (pa_cons (pv 2) (pa_cons (pv 1) pa_nil))) (pg_tup (by rfl) (pgs_cons (pg_name (i := 3) sc_is_quiet.nd rfl (Or.inl rfl)) (pgs_cons (pg_name (i := 4) sc_is_quiet.nd rfl (Or.inl rfl)) pgs_nil))))
    (pss_cons (ps_if (pt_cmpR op_isN (pv 0) pe_non (nomark _)) (pss_one (ps_ret pe_bl)) pss_nil)
    (pss_cons (ps_asg (pv 0) (pg_tup (by rfl) (pgs_cons (pg_name (i := 5) sc_is_quiet.nd rfl (Or.inl rfl)) (pgs_cons (pg_name (i := 6) sc_is_quiet.nd rfl (Or.inl rfl)) pgs_nil))))
    (pss_cons (ps_if (pt_cmpR op_lt (pv 5) (pv 6) (nomark _)) (pss_one (ps_ret (pe_chain op_le op_lt (pv 5) (pv 4) (pv 6)))) pss_nil)
    (pss_one (ps_ret (pe_or (pe_cmpR op_ge (pv 4) (pv 5) (nomark _)) (pe_one (pe_cmpR op_lt (pv 4) (pv 6) (nomark _)))))))))))
theorem ok_is_quiet (Z : Env K mg) : ∃ fd, FnOk P w K mg base (L2.CX P w) 5 (ga K "is_quiet") fd ["quiet", "zone", "moment"] (sp_is_quiet K) ∧ Binds K fd ["quiet", "zone", "moment"] [] ∧ PySem.W.keepIn K (.ref (ga K "is_quiet")) = true := by
  obtain ⟨fd, F⟩ := Z.c.def_ 11 (d := d_is_quiet) rfl
  exact ⟨fd, okA_is_quiet Z F, F.bindsN fun _ _ _ _ _ _ us hl => match us, hl with | [_, _, _], _ => rfl, F.kp⟩
theorem sc_loud_from : FnScope ["quiet", "zone", "moment"] ["quiet", "zone", "moment"] (defScope s_loud_from) := ⟨rfl, rfl, rfl, by decide +kernel, rfl, by decide +kernel, by decide +kernel⟩
theorem okA_loud_from (Z : Env K mg) {fd : FuncData} (F : FunD K d_loud_from.name d_loud_from.qual d_loud_from.params d_loud_from.body d_loud_from.scope (d_loud_from.dvs K) (d_loud_from.kws K) (fAd K d_loud_from.at_) fd) : FnOk P w K mg base (L2.CX P w) 6 (ga K "loud_from") fd ["quiet", "zone", "moment"] (sp_loud_from K) := by
  obtain ⟨fd_is_quiet, G_is_quiet, b_is_quiet, k_is_quiet⟩ := ok_is_quiet (P := P) (w := w) (base := base) Z
  obtain ⟨fd_shown, G_shown, b_shown, k_shown⟩ := ok_shown (P := P) (w := w) (base := base) Z
  have g_is_quiet := Z.glo 19 (x := "is_quiet") rfl
  have g_shown := Z.glo 14 (x := "shown") rfl
  have g_DAY := Z.int 11 (x := "DAY") (i := 1440) rfl
  refine F.ok (CX := (L2.CX P w)) sc_loud_from (fun vs H Q E h => len_loud_from h) (fun cdv A outer s H vs Q E hr h => ⟨t_loud_from K E, ?_, run_loud_from h⟩)
  exact (pss_cons (ps_if (pt_not (pt_val (pe_call G_is_quiet (hr.mono (by decide)) rfl g_is_quiet k_is_quiet b_is_quiet .nil (passes_call (takes_of rfl rfl rfl rfl) (fun _ _ _ _ h => h)) (pa_cons (pv 0) (pa_cons (pv 1) (pa_cons (pv 2) pa_nil)))))) (pss_one (ps_ret (pv 2))) pss_nil)
    (pss_one (ps_ret (pe_op op_add (pv 2) (pe_op op_mod (pe_op op_sub (pe_ix ix_seq (pv 0) pe_int (fun _ _ => rfl)) (pe_ix ix_seq (pe_call G_shown (hr.mono (by decide)) rfl g_shown k_shown b_shown .nil (passes_call (takes_of rfl rfl rfl rfl) (fun _ _ _ _ h => h)) (pa_cons (pv 2) (pa_cons (pv 1) pa_nil))) pe_int (fun _ _ => rfl))) (pe_glob rfl (Classical.choose_spec g_DAY) ⟨_, rfl⟩))))))
theorem ok_loud_from (Z : Env K mg) : ∃ fd, FnOk P w K mg base (L2.CX P w) 6 (ga K "loud_from") fd ["quiet", "zone", "moment"] (sp_loud_from K) ∧ Binds K fd ["quiet", "zone", "moment"] [] ∧ PySem.W.keepIn K (.ref (ga K "loud_from")) = true := by
  obtain ⟨fd, F⟩ := Z.c.def_ 12 (d := d_loud_from) rfl
  exact ⟨fd, okA_loud_from Z F, F.bindsN fun _ _ _ _ _ _ us hl => match us, hl with | [_, _, _], _ => rfl, F.kp⟩
theorem sc_quiet_ahead : FnScope ["quiet", "zone", "moment", "start", "end", "day", "minute"] ["quiet", "zone", "moment"] (defScope s_quiet_ahead) := ⟨rfl, rfl, rfl, by decide +kernel, rfl, by decide +kernel, by decide +kernel⟩
theorem okA_quiet_ahead (Z : Env K mg) {fd : FuncData} (F : FunD K d_quiet_ahead.name d_quiet_ahead.qual d_quiet_ahead.params d_quiet_ahead.body d_quiet_ahead.scope (d_quiet_ahead.dvs K) (d_quiet_ahead.kws K) (fAd K d_quiet_ahead.at_) fd) : FnOk P w K mg base (L2.CX P w) 5 (ga K "quiet_ahead") fd ["quiet", "zone", "moment"] (sp_quiet_ahead K) := by
  obtain ⟨fd_shown, G_shown, b_shown, k_shown⟩ := ok_shown (P := P) (w := w) (base := base) Z
  have g_shown := Z.glo 14 (x := "shown") rfl
  have z_max := Z.free 20 (x := "max") rfl
  have z_min := Z.free 21 (x := "min") rfl
  have g_DAY := Z.int 11 (x := "DAY") (i := 1440) rfl
  refine F.ok (CX := (L2.CX P w)) sc_quiet_ahead (fun vs H Q E h => len_quiet_ahead h) (fun cdv A outer s H vs Q E hr h => ⟨t_quiet_ahead K E, ?_, run_quiet_ahead h⟩)
  exact (pss_cons (ps_asg (pv 0) (pg_tup (by rfl) (pgs_cons (pg_name (i := 3) sc_quiet_ahead.nd rfl (Or.inl rfl)) (pgs_cons (pg_name (i := 4) sc_quiet_ahead.nd rfl (Or.inl rfl)) pgs_nil))))
    (pss_cons (ps_asg (pe_call G_shown (hr.mono (by decide)) rfl g_shown k_shown b_shown .nil (passes_call (takes_of rfl rfl rfl rfl) (fun _ _ _ _ h => h)) (pa_cons (pv 2) (pa_cons (pv 1) pa_nil))) (pg_tup (by rfl) (pgs_cons (pg_name (i := 5) sc_quiet_ahead.nd rfl (Or.inl rfl)) (pgs_cons (pg_name (i := 6) sc_quiet_ahead.nd rfl (Or.inl rfl)) pgs_nil))))
    (pss_cons (ps_if (pt_cmpR op_lt (pv 3) (pv 4) (nomark _)) (pss_one (ps_ret (pe_op op_add (pe_op op_mul (pv 5) (pe_op op_sub (pv 4) (pv 3))) (pe_callB (call_min2 rfl) (by rfl) z_min (by decide +kernel) (pa_cons (pe_callB (call_max2 rfl) (by rfl) z_max (by decide +kernel) (pa_cons (pe_op op_sub (pv 6) (pv 3)) (pa_cons pe_int pa_nil))) (pa_cons (pe_op op_sub (pv 4) (pv 3)) pa_nil)))))) pss_nil)
    (pss_one (ps_ret (pe_op op_add (pe_op op_add (pe_op op_mul (pv 5) (pe_op op_sub (pe_op op_add (pv 4) (pe_glob rfl (Classical.choose_spec g_DAY) ⟨_, rfl⟩)) (pv 3))) (pe_callB (call_min2 rfl) (by rfl) z_min (by decide +kernel) (pa_cons (pv 6) (pa_cons (pv 4) pa_nil)))) (pe_callB (call_max2 rfl) (by rfl) z_max (by decide +kernel) (pa_cons (pe_op op_sub (pv 6) (pv 3)) (pa_cons pe_int pa_nil)))))))))
theorem ok_quiet_ahead (Z : Env K mg) : ∃ fd, FnOk P w K mg base (L2.CX P w) 5 (ga K "quiet_ahead") fd ["quiet", "zone", "moment"] (sp_quiet_ahead K) ∧ Binds K fd ["quiet", "zone", "moment"] [] ∧ PySem.W.keepIn K (.ref (ga K "quiet_ahead")) = true := by
  obtain ⟨fd, F⟩ := Z.c.def_ 13 (d := d_quiet_ahead) rfl
  exact ⟨fd, okA_quiet_ahead Z F, F.bindsN fun _ _ _ _ _ _ us hl => match us, hl with | [_, _, _], _ => rfl, F.kp⟩
theorem sc_quiet_count : FnScope ["quiet", "zone", "one", "other"] ["quiet", "zone", "one", "other"] (defScope s_quiet_count) := ⟨rfl, rfl, rfl, by decide +kernel, rfl, by decide +kernel, by decide +kernel⟩
theorem okA_quiet_count (Z : Env K mg) {fd : FuncData} (F : FunD K d_quiet_count.name d_quiet_count.qual d_quiet_count.params d_quiet_count.body d_quiet_count.scope (d_quiet_count.dvs K) (d_quiet_count.kws K) (fAd K d_quiet_count.at_) fd) : FnOk P w K mg base (L2.CX P w) 6 (ga K "quiet_count") fd ["quiet", "zone", "one", "other"] (sp_quiet_count K) := by
  obtain ⟨fd_quiet_ahead, G_quiet_ahead, b_quiet_ahead, k_quiet_ahead⟩ := ok_quiet_ahead (P := P) (w := w) (base := base) Z
  obtain ⟨fd_sure_quiet, G_sure_quiet, b_sure_quiet, k_sure_quiet⟩ := ok_sure_quiet (P := P) (w := w) (base := base) Z
  obtain ⟨fd_sure_zone, G_sure_zone, b_sure_zone, k_sure_zone⟩ := ok_sure_zone (P := P) (w := w) (base := base) Z
  have g_quiet_ahead := Z.glo 22 (x := "quiet_ahead") rfl
  have g_sure_quiet := Z.glo 18 (x := "sure_quiet") rfl
  have g_sure_zone := Z.glo 12 (x := "sure_zone") rfl
  refine F.ok (CX := (L2.CX P w)) sc_quiet_count (fun vs H Q E h => len_quiet_count h) (fun cdv A outer s H vs Q E hr h => ⟨t_quiet_count K E, ?_, run_quiet_count h⟩)
  exact (pss_cons (ps_expr (pe_call G_sure_quiet (hr.mono (by decide)) rfl g_sure_quiet k_sure_quiet b_sure_quiet .nil (passes_call (takes_of rfl rfl rfl rfl) (fun _ _ _ _ h => h)) (pa_cons (pv 0) pa_nil)))
    (pss_cons (ps_expr (pe_call G_sure_zone (hr.mono (by decide)) rfl g_sure_zone k_sure_zone b_sure_zone .nil (passes_call (takes_of rfl rfl rfl rfl) (fun _ _ _ _ h => h)) (pa_cons (pv 1) pa_nil)))
    (pss_cons (ps_if (PW.pt (pw_or (pt_cmpR op_isN (pv 0) pe_non (nomark _)) (pw_or1 (pt_cmpR op_le (pv 3) (pv 2) (nomark _))))) (pss_one (ps_ret pe_int)) pss_nil)
    (pss_one (ps_ret (pe_op op_sub (pe_call G_quiet_ahead (hr.mono (by decide)) rfl g_quiet_ahead k_quiet_ahead b_quiet_ahead .nil (passes_call (takes_of rfl rfl rfl rfl) (fun _ _ _ _ h => h)) (pa_cons (pv 0) (pa_cons (pv 1) (pa_cons (pv 3) pa_nil)))) (pe_call G_quiet_ahead (hr.mono (by decide)) rfl g_quiet_ahead k_quiet_ahead b_quiet_ahead .nil (passes_call (takes_of rfl rfl rfl rfl) (fun _ _ _ _ h => h)) (pa_cons (pv 0) (pa_cons (pv 1) (pa_cons (pv 2) pa_nil))))))))))
theorem ok_quiet_count (Z : Env K mg) : ∃ fd, FnOk P w K mg base (L2.CX P w) 6 (ga K "quiet_count") fd ["quiet", "zone", "one", "other"] (sp_quiet_count K) ∧ Binds K fd ["quiet", "zone", "one", "other"] [] ∧ PySem.W.keepIn K (.ref (ga K "quiet_count")) = true := by
  obtain ⟨fd, F⟩ := Z.c.def_ 14 (d := d_quiet_count) rfl
  exact ⟨fd, okA_quiet_count Z F, F.bindsN fun _ _ _ _ _ _ us hl => match us, hl with | [_, _, _, _], _ => rfl, F.kp⟩
theorem sc_next_hour : FnScope ["minute", "zone", "moment"] ["minute", "zone", "moment"] (defScope s_next_hour) := ⟨rfl, rfl, rfl, by decide +kernel, rfl, by decide +kernel, by decide +kernel⟩
theorem okA_next_hour (Z : Env K mg) {fd : FuncData} (F : FunD K d_next_hour.name d_next_hour.qual d_next_hour.params d_next_hour.body d_next_hour.scope (d_next_hour.dvs K) (d_next_hour.kws K) (fAd K d_next_hour.at_) fd) : FnOk P w K mg base (L2.CX P w) 5 (ga K "next_hour") fd ["minute", "zone", "moment"] (sp_next_hour K) := by
  obtain ⟨fd_shown, G_shown, b_shown, k_shown⟩ := ok_shown (P := P) (w := w) (base := base) Z
  obtain ⟨fd_sure_minute, G_sure_minute, b_sure_minute, k_sure_minute⟩ := ok_sure_minute (P := P) (w := w) (base := base) Z
  have g_shown := Z.glo 14 (x := "shown") rfl
  have g_sure_minute := Z.glo 15 (x := "sure_minute") rfl
  have g_HOUR := Z.int 23 (x := "HOUR") (i := 60) rfl
  refine F.ok (CX := (L2.CX P w)) sc_next_hour (fun vs H Q E h => len_next_hour h) (fun cdv A outer s H vs Q E hr h => ⟨t_next_hour K E, ?_, run_next_hour h⟩)
  exact (pss_cons (ps_expr (pe_call G_sure_minute (hr.mono (by decide)) rfl g_sure_minute k_sure_minute b_sure_minute .nil (passes_call (takes_of rfl rfl rfl rfl) (fun _ _ _ _ h => h)) (pa_cons (pv 0) (pa_cons (pe_glob rfl (Classical.choose_spec g_HOUR) ⟨_, rfl⟩) pa_nil))))
    (pss_one (ps_ret (pe_op op_add (pv 2) (pe_op op_mod (pe_op op_sub (pv 0) (pe_ix ix_seq (pe_call G_shown (hr.mono (by decide)) rfl g_shown k_shown b_shown .nil (passes_call (takes_of rfl rfl rfl rfl) (fun _ _ _ _ h => h)) (pa_cons (pv 2) (pa_cons (pv 1) pa_nil))) pe_int (fun _ _ => rfl))) (pe_glob rfl (Classical.choose_spec g_HOUR) ⟨_, rfl⟩))))))
theorem ok_next_hour (Z : Env K mg) : ∃ fd, FnOk P w K mg base (L2.CX P w) 5 (ga K "next_hour") fd ["minute", "zone", "moment"] (sp_next_hour K) ∧ Binds K fd ["minute", "zone", "moment"] [] ∧ PySem.W.keepIn K (.ref (ga K "next_hour")) = true := by
  obtain ⟨fd, F⟩ := Z.c.def_ 15 (d := d_next_hour) rfl
  exact ⟨fd, okA_next_hour Z F, F.bindsN fun _ _ _ _ _ _ us hl => match us, hl with | [_, _, _], _ => rfl, F.kp⟩
theorem sc_law_asked : FnScope ["_law_way", "_law_zone", "_law_quiet_here", "_law_hour", "_law_day", "_law_moment"] ["_law_way", "_law_zone", "_law_quiet_here", "_law_hour", "_law_day", "_law_moment"] (defScope s_law_asked) := ⟨rfl, rfl, rfl, by decide +kernel, rfl, by decide +kernel, by decide +kernel⟩
theorem okA_law_asked (Z : Env K mg) {fd : FuncData} (F : FunD K d_law_asked.name d_law_asked.qual d_law_asked.params d_law_asked.body d_law_asked.scope (d_law_asked.dvs K) (d_law_asked.kws K) (fAd K d_law_asked.at_) fd) : FnOk P w K mg base (L2.CX P w) 7 (ga K "_law_asked") fd ["_law_way", "_law_zone", "_law_quiet_here", "_law_hour", "_law_day", "_law_moment"] (sp_law_asked K) := by
  obtain ⟨fd_is_quiet, G_is_quiet, b_is_quiet, k_is_quiet⟩ := ok_is_quiet (P := P) (w := w) (base := base) Z
  obtain ⟨fd_loud_from, G_loud_from, b_loud_from, k_loud_from⟩ := ok_loud_from (P := P) (w := w) (base := base) Z
  obtain ⟨fd_next_day, G_next_day, b_next_day, k_next_day⟩ := ok_next_day (P := P) (w := w) (base := base) Z
  obtain ⟨fd_next_hour, G_next_hour, b_next_hour, k_next_hour⟩ := ok_next_hour (P := P) (w := w) (base := base) Z
  obtain ⟨fd_quiet_count, G_quiet_count, b_quiet_count, k_quiet_count⟩ := ok_quiet_count (P := P) (w := w) (base := base) Z
  obtain ⟨fd_shown, G_shown, b_shown, k_shown⟩ := ok_shown (P := P) (w := w) (base := base) Z
  have g_is_quiet := Z.glo 19 (x := "is_quiet") rfl
  have g_loud_from := Z.glo 24 (x := "loud_from") rfl
  have g_next_day := Z.glo 25 (x := "next_day") rfl
  have g_next_hour := Z.glo 26 (x := "next_hour") rfl
  have g_quiet_count := Z.glo 27 (x := "quiet_count") rfl
  have g_shown := Z.glo 14 (x := "shown") rfl
  refine F.ok (CX := (L2.CX P w)) sc_law_asked (fun vs H Q E h => len_law_asked h) (fun cdv A outer s H vs Q E hr h => ⟨t_law_asked K E, ?_, run_law_asked h⟩)
  exact (pss_cons (ps_if (pt_cmpR op_lt (pv 0) pe_int (nomark _)) (pss_one (ps_ret (pe_call G_shown (hr.mono (by decide)) rfl g_shown k_shown b_shown .nil (passes_call (takes_of rfl rfl rfl rfl) (fun _ _ _ _ h => h)) (pa_cons (pv 5) (pa_cons (pv 1) pa_nil))))) pss_nil)
    (pss_cons (ps_if (pt_cmpR op_lt (pv 0) pe_int (nomark _)) (pss_one (ps_ret (pe_call G_is_quiet (hr.mono (by decide)) rfl g_is_quiet k_is_quiet b_is_quiet .nil (passes_call (takes_of rfl rfl rfl rfl) (fun _ _ _ _ h => h)) (pa_cons (pv 2) (pa_cons (pv 1) (pa_cons (pv 5) pa_nil)))))) pss_nil)
    (pss_cons (ps_if (pt_cmpR op_lt (pv 0) pe_int (nomark _)) (pss_one (ps_ret (pe_call G_loud_from (hr.mono (by decide)) rfl g_loud_from k_loud_from b_loud_from .nil (passes_call (takes_of rfl rfl rfl rfl) (fun _ _ _ _ h => h)) (pa_cons (pv 2) (pa_cons (pv 1) (pa_cons (pv 5) pa_nil)))))) pss_nil)
    (pss_cons (ps_if (pt_cmpR op_lt (pv 0) pe_int (nomark _)) (pss_one (ps_ret (pe_call G_quiet_count (hr.mono (by decide)) rfl g_quiet_count k_quiet_count b_quiet_count .nil (passes_call (takes_of rfl rfl rfl rfl) (fun _ _ _ _ h => h)) (pa_cons (pv 2) (pa_cons (pv 1) (pa_cons (pv 5) (pa_cons (pe_op op_sub (pe_op op_add (pv 5) (pv 4)) pe_int) pa_nil))))))) pss_nil)
    (pss_cons (ps_if (pt_cmpR op_lt (pv 0) pe_int (nomark _)) (pss_one (ps_ret (pe_call G_next_hour (hr.mono (by decide)) rfl g_next_hour k_next_hour b_next_hour .nil (passes_call (takes_of rfl rfl rfl rfl) (fun _ _ _ _ h => h)) (pa_cons (pv 3) (pa_cons (pv 1) (pa_cons (pv 5) pa_nil)))))) pss_nil)
    (pss_one (ps_ret (pe_call G_next_day (hr.mono (by decide)) rfl g_next_day k_next_day b_next_day .nil (passes_call (takes_of rfl rfl rfl rfl) (fun _ _ _ _ h => h)) (pa_cons (pv 4) (pa_cons (pv 1) (pa_cons (pv 5) pa_nil)))))))))))
theorem ok_law_asked (Z : Env K mg) : ∃ fd, FnOk P w K mg base (L2.CX P w) 7 (ga K "_law_asked") fd ["_law_way", "_law_zone", "_law_quiet_here", "_law_hour", "_law_day", "_law_moment"] (sp_law_asked K) ∧ Binds K fd ["_law_way", "_law_zone", "_law_quiet_here", "_law_hour", "_law_day", "_law_moment"] [] ∧ PySem.W.keepIn K (.ref (ga K "_law_asked")) = true := by
  obtain ⟨fd, F⟩ := Z.c.def_ 16 (d := d_law_asked) rfl
  exact ⟨fd, okA_law_asked Z F, F.bindsN fun _ _ _ _ _ _ us hl => match us, hl with | [_, _, _, _, _, _], _ => rfl, F.kp⟩
theorem sc_law_bad_zone : FnScope ["_law_well_here", "_law_far"] ["_law_well_here"] (defScope s_law_bad_zone) := ⟨rfl, rfl, rfl, by decide +kernel, rfl, by decide +kernel, by decide +kernel⟩
theorem okA_law_bad_zone (Z : Env K mg) {fd : FuncData} (F : FunD K d_law_bad_zone.name d_law_bad_zone.qual d_law_bad_zone.params d_law_bad_zone.body d_law_bad_zone.scope (d_law_bad_zone.dvs K) (d_law_bad_zone.kws K) (fAd K d_law_bad_zone.at_) fd) : FnOk P w K mg base CX0 3 (ga K "_law_bad_zone") fd ["_law_well_here"] (sp_law_bad_zone K) := by
  obtain ⟨fd_law_draw, G_law_draw, b_law_draw, k_law_draw⟩ := ok_law_draw (P := P) (w := w) (base := base) Z
  have g__law_draw := Z.glo 4 (x := "_law_draw") rfl
  refine F.ok (CX := CX0) sc_law_bad_zone (fun vs H Q E h => len_law_bad_zone h) (fun cdv A outer s H vs Q E hr h => ⟨t_law_bad_zone K, PSs.nox ?_, run_law_bad_zone h⟩)
  exact (pss_cons (ps_set (i := 1) sc_law_bad_zone.nd rfl (Or.inl rfl) (pe_op op_add pe_int (pe_call G_law_draw (hr.mono (by decide)) rfl g__law_draw k_law_draw b_law_draw .nil pass0 (pa_cons (pv 0) (pa_cons (pe_pow2 (r := 100000) (by decide) ⟨by decide, by decide, by decide⟩) pa_nil)))))
    (pss_one (ps_ret (pe_ix ix_seq (pe_lst (pa_cons pe_int (pa_cons (pe_un un_neg pe_int) (pa_cons (pv 1) (pa_cons (pe_op op_sub pe_int (pv 1)) (pa_cons pe_bl (pa_cons pe_bl (pa_cons pe_non (pa_cons pe_str (pa_cons (pe_tup (pa_cons pe_int pa_nil)) (pa_cons (pe_lst (pa_cons pe_int pa_nil)) pa_nil))))))))))) (pe_call G_law_draw (hr.mono (by decide)) rfl g__law_draw k_law_draw b_law_draw .nil pass0 (pa_cons (pv 0) (pa_cons pe_int pa_nil))) (fun _ _ => rfl)))))
theorem ok_law_bad_zone (Z : Env K mg) : ∃ fd, FnOk P w K mg base CX0 3 (ga K "_law_bad_zone") fd ["_law_well_here"] (sp_law_bad_zone K) ∧ Binds K fd ["_law_well_here"] [] ∧ PySem.W.keepIn K (.ref (ga K "_law_bad_zone")) = true := by
  obtain ⟨fd, F⟩ := Z.c.def_ 17 (d := d_law_bad_zone) rfl
  exact ⟨fd, okA_law_bad_zone Z F, F.bindsN fun _ _ _ _ _ _ us hl => match us, hl with | [_], _ => rfl, F.kp⟩
theorem sc_law_refused : FnScope ["_law_way", "_law_zone", "_law_quiet_here", "_law_hour", "_law_day", "_law_moment", "_law_found", "e", "_law_others"] ["_law_way", "_law_zone", "_law_quiet_here", "_law_hour", "_law_day", "_law_moment"] (defScope s_law_refused) := ⟨rfl, rfl, rfl, by decide +kernel, rfl, by decide +kernel, by decide +kernel⟩
theorem okA_law_refused (Z : Env K mg) {fd : FuncData} (F : FunD K d_law_refused.name d_law_refused.qual d_law_refused.params d_law_refused.body d_law_refused.scope (d_law_refused.dvs K) (d_law_refused.kws K) (fAd K d_law_refused.at_) fd) : FnOk P w K mg base CX0 8 (ga K "_law_refused") fd ["_law_way", "_law_zone", "_law_quiet_here", "_law_hour", "_law_day", "_law_moment"] (sp_law_refused K) := by
  obtain ⟨fd_law_asked, G_law_asked, b_law_asked, k_law_asked⟩ := ok_law_asked (P := P) (w := w) (base := base) Z
  have g_Backward := Z.glo 28 (x := "Backward") rfl
  have g_BellError := Z.glo 29 (x := "BellError") rfl
  have g_Fallen := Z.glo 30 (x := "Fallen") rfl
  have g_NoBook := Z.glo 31 (x := "NoBook") rfl
  have g_NoClock := Z.glo 8 (x := "NoClock") rfl
  have g_NoFit := Z.glo 32 (x := "NoFit") rfl
  have g_NoHappening := Z.glo 33 (x := "NoHappening") rfl
  have g_NoNumber := Z.glo 34 (x := "NoNumber") rfl
  have g_NoRoad := Z.glo 35 (x := "NoRoad") rfl
  have g_NoRow := Z.glo 36 (x := "NoRow") rfl
  have g_NoText := Z.glo 37 (x := "NoText") rfl
  have g_NoTime := Z.glo 38 (x := "NoTime") rfl
  have g_NoWish := Z.glo 39 (x := "NoWish") rfl
  have g__law_asked := Z.glo 40 (x := "_law_asked") rfl
  have z_ValueError := Z.free 41 (x := "ValueError") rfl
  have z_isinstance := Z.free 6 (x := "isinstance") rfl
  refine F.ok (CX := CX0) sc_law_refused (fun vs H Q E h => len_law_refused h) (fun cdv A outer s H vs Q E hr h => ⟨t_law_refused K, PSs.nox ?_, run_law_refused h (Z.x 0 rfl)⟩)
  exact (pss_cons (ps_set (i := 6) sc_law_refused.nd rfl (Or.inl rfl) pe_bl)
    (pss_cons (ps_try_as (i := 7) rfl rfl sc_law_refused.nd rfl rfl ⟨by exact rfl, by decide, .inl g_BellError⟩ takes0 (fun W pn xe tk _ => (pss_one (ps_expr (pe_callS G_law_asked (hr.mono (by decide)) (by exact rfl) g__law_asked k_law_asked b_law_asked (fun σ => passAt tk σ) (pa_cons (pv 0) (pa_cons (pv 1) (pa_cons (pv 2) (pa_cons (pv 3) (pa_cons (pv 4) (pa_cons (pv 5) pa_nil))))))))))
    (fun a oe cls d pn hz hf => (pss_cons (ps_set (i := 8) sc_law_refused.nd rfl (Or.inl rfl) (pe_callB (call_isXT hz hf) (by rfl) z_isinstance (by decide +kernel) (pa_cons (pv 7) (pa_cons (pe_tup (pa_cons (pe_glob rfl g_Backward rfl) (pa_cons (pe_glob rfl g_Fallen rfl) (pa_cons (pe_glob rfl g_NoBook rfl) (pa_cons (pe_glob rfl g_NoFit rfl) (pa_cons (pe_glob rfl g_NoHappening rfl) (pa_cons (pe_glob rfl g_NoNumber rfl) (pa_cons (pe_glob rfl g_NoRoad rfl) (pa_cons (pe_glob rfl g_NoRow rfl) pa_nil))))))))) pa_nil))))
    (pss_cons (ps_set (i := 8) sc_law_refused.nd rfl (Or.inl rfl) (pe_or (pv 8) (pe_one (pe_callB (call_isXT hz hf) (by rfl) z_isinstance (by decide +kernel) (pa_cons (pv 7) (pa_cons (pe_tup (pa_cons (pe_glob rfl g_NoText rfl) (pa_cons (pe_glob rfl g_NoTime rfl) (pa_cons (pe_glob rfl g_NoWish rfl) pa_nil)))) pa_nil))))))
    (pss_one (ps_set (i := 6) sc_law_refused.nd rfl (Or.inl rfl) (pe_and (pe_callB (call_isX hz hf) (by rfl) z_isinstance (by decide +kernel) (pa_cons (pv 7) (pa_cons (pe_glob rfl g_NoClock rfl) pa_nil))) (pe_and (pe_callB (call_isX hz hf) (by rfl) z_isinstance (by decide +kernel) (pa_cons (pv 7) (pa_cons (pe_bltn (v := .ty "ValueError") (by rfl) z_ValueError (by decide +kernel) rfl) pa_nil))) (pe_one (pe_not (pv 8)))))))))))
    (pss_one (ps_ret (pv 6)))))
theorem ok_law_refused (Z : Env K mg) : ∃ fd, FnOk P w K mg base CX0 8 (ga K "_law_refused") fd ["_law_way", "_law_zone", "_law_quiet_here", "_law_hour", "_law_day", "_law_moment"] (sp_law_refused K) ∧ Binds K fd ["_law_way", "_law_zone", "_law_quiet_here", "_law_hour", "_law_day", "_law_moment"] [] ∧ PySem.W.keepIn K (.ref (ga K "_law_refused")) = true := by
  obtain ⟨fd, F⟩ := Z.c.def_ 18 (d := d_law_refused) rfl
  exact ⟨fd, okA_law_refused Z F, F.bindsN fun _ _ _ _ _ _ us hl => match us, hl with | [_, _, _, _, _, _], _ => rfl, F.kp⟩
theorem sc_law_bad_quiet : FnScope ["_law_well_here", "_law_good", "_law_bad", "_law_other", "_law_some"] ["_law_well_here"] (defScope s_law_bad_quiet) := ⟨rfl, rfl, rfl, by decide +kernel, rfl, by decide +kernel, by decide +kernel⟩
theorem okA_law_bad_quiet (Z : Env K mg) {fd : FuncData} (F : FunD K d_law_bad_quiet.name d_law_bad_quiet.qual d_law_bad_quiet.params d_law_bad_quiet.body d_law_bad_quiet.scope (d_law_bad_quiet.dvs K) (d_law_bad_quiet.kws K) (fAd K d_law_bad_quiet.at_) fd) : FnOk P w K mg base CX0 3 (ga K "_law_bad_quiet") fd ["_law_well_here"] (sp_law_bad_quiet K) := by
  obtain ⟨fd_law_draw, G_law_draw, b_law_draw, k_law_draw⟩ := ok_law_draw (P := P) (w := w) (base := base) Z
  have g__law_draw := Z.glo 4 (x := "_law_draw") rfl
  refine F.ok (CX := CX0) sc_law_bad_quiet (fun vs H Q E h => len_law_bad_quiet h) (fun cdv A outer s H vs Q E hr h => ⟨t_law_bad_quiet K, PSs.nox ?_, run_law_bad_quiet h⟩)
  exact (pss_cons (ps_set (i := 1) sc_law_bad_quiet.nd rfl (Or.inl rfl) (pe_call G_law_draw (hr.mono (by decide)) rfl g__law_draw k_law_draw b_law_draw .nil pass0 (pa_cons (pv 0) (pa_cons pe_int pa_nil))))
    (pss_cons (ps_set (i := 2) sc_law_bad_quiet.nd rfl (Or.inl rfl) (pe_ix ix_seq (pe_lst (pa_cons (pe_un un_neg pe_int) (pa_cons pe_int (pa_cons pe_bl (pa_cons pe_non (pa_cons pe_str (pa_cons (pe_tup (pa_cons pe_int pa_nil)) (pa_cons (pe_op op_add pe_int (pe_call G_law_draw (hr.mono (by decide)) rfl g__law_draw k_law_draw b_law_draw .nil pass0 (pa_cons (pv 0) (pa_cons (pe_pow2 (r := 100000) (by decide) ⟨by decide, by decide, by decide⟩) pa_nil)))) pa_nil)))))))) (pe_call G_law_draw (hr.mono (by decide)) rfl g__law_draw k_law_draw b_law_draw .nil pass0 (pa_cons (pv 0) (pa_cons pe_int pa_nil))) (fun _ _ => rfl)))
    (pss_cons (ps_set (i := 3) sc_law_bad_quiet.nd rfl (Or.inl rfl) (pe_op op_mod (pe_op op_add (pv 1) pe_int) pe_int))
    (pss_cons (ps_set (i := 4) sc_law_bad_quiet.nd rfl (Or.inl rfl) (pe_lst (pa_cons (pe_tup (pa_cons (pv 1) (pa_cons (pv 2) pa_nil))) (pa_cons (pe_tup (pa_cons (pv 2) (pa_cons (pv 1) pa_nil))) (pa_cons (pe_tup (pa_cons (pv 1) (pa_cons (pv 1) pa_nil))) (pa_cons (pe_tup (pa_cons (pv 1) pa_nil)) (pa_cons (pe_tup (pa_cons (pv 1) (pa_cons (pv 3) (pa_cons pe_int pa_nil)))) (pa_cons (pe_tup pa_nil) (pa_cons (pe_lst (pa_cons (pv 1) (pa_cons (pv 3) pa_nil))) (pa_cons pe_str (pa_cons pe_str (pa_cons (pv 1) pa_nil))))))))))))
    (pss_one (ps_ret (pe_ix ix_seq (pe_op op_cat (pv 4) (pe_lst (pa_cons pe_bl (pa_cons pe_int pa_nil)))) (pe_call G_law_draw (hr.mono (by decide)) rfl g__law_draw k_law_draw b_law_draw .nil pass0 (pa_cons (pv 0) (pa_cons pe_int pa_nil))) (fun _ _ => rfl))))))))
theorem ok_law_bad_quiet (Z : Env K mg) : ∃ fd, FnOk P w K mg base CX0 3 (ga K "_law_bad_quiet") fd ["_law_well_here"] (sp_law_bad_quiet K) ∧ Binds K fd ["_law_well_here"] [] ∧ PySem.W.keepIn K (.ref (ga K "_law_bad_quiet")) = true := by
  obtain ⟨fd, F⟩ := Z.c.def_ 19 (d := d_law_bad_quiet) rfl
  exact ⟨fd, okA_law_bad_quiet Z F, F.bindsN fun _ _ _ _ _ _ us hl => match us, hl with | [_], _ => rfl, F.kp⟩
theorem sc_law_bad_minute : FnScope ["_law_well_here", "_law_many", "_law_far"] ["_law_well_here", "_law_many"] (defScope s_law_bad_minute) := ⟨rfl, rfl, rfl, by decide +kernel, rfl, by decide +kernel, by decide +kernel⟩
theorem okA_law_bad_minute (Z : Env K mg) {fd : FuncData} (F : FunD K d_law_bad_minute.name d_law_bad_minute.qual d_law_bad_minute.params d_law_bad_minute.body d_law_bad_minute.scope (d_law_bad_minute.dvs K) (d_law_bad_minute.kws K) (fAd K d_law_bad_minute.at_) fd) : FnOk P w K mg base CX0 3 (ga K "_law_bad_minute") fd ["_law_well_here", "_law_many"] (sp_law_bad_minute K) := by
  obtain ⟨fd_law_draw, G_law_draw, b_law_draw, k_law_draw⟩ := ok_law_draw (P := P) (w := w) (base := base) Z
  have g__law_draw := Z.glo 4 (x := "_law_draw") rfl
  refine F.ok (CX := CX0) sc_law_bad_minute (fun vs H Q E h => len_law_bad_minute h) (fun cdv A outer s H vs Q E hr h => ⟨t_law_bad_minute K, PSs.nox ?_, run_law_bad_minute h⟩)
  exact (pss_cons (ps_set (i := 2) sc_law_bad_minute.nd rfl (Or.inl rfl) (pe_op op_add (pv 1) (pe_call G_law_draw (hr.mono (by decide)) rfl g__law_draw k_law_draw b_law_draw .nil pass0 (pa_cons (pv 0) (pa_cons (pe_pow2 (r := 100000) (by decide) ⟨by decide, by decide, by decide⟩) pa_nil)))))
    (pss_one (ps_ret (pe_ix ix_seq (pe_lst (pa_cons (pe_un un_neg pe_int) (pa_cons (pv 1) (pa_cons (pv 2) (pa_cons (pe_op op_sub (pe_un un_neg pe_int) (pv 2)) (pa_cons pe_bl (pa_cons pe_bl (pa_cons pe_non (pa_cons pe_str (pa_cons (pe_tup (pa_cons pe_int pa_nil)) (pa_cons (pe_lst (pa_cons pe_int pa_nil)) pa_nil))))))))))) (pe_call G_law_draw (hr.mono (by decide)) rfl g__law_draw k_law_draw b_law_draw .nil pass0 (pa_cons (pv 0) (pa_cons pe_int pa_nil))) (fun _ _ => rfl)))))
theorem ok_law_bad_minute (Z : Env K mg) : ∃ fd, FnOk P w K mg base CX0 3 (ga K "_law_bad_minute") fd ["_law_well_here", "_law_many"] (sp_law_bad_minute K) ∧ Binds K fd ["_law_well_here", "_law_many"] [] ∧ PySem.W.keepIn K (.ref (ga K "_law_bad_minute")) = true := by
  obtain ⟨fd, F⟩ := Z.c.def_ 20 (d := d_law_bad_minute) rfl
  exact ⟨fd, okA_law_bad_minute Z F, F.bindsN fun _ _ _ _ _ _ us hl => match us, hl with | [_, _], _ => rfl, F.kp⟩
theorem sc_law_right : FnScope ["_law_well_here", "_law_way", "_law_zone", "_law_quiet_here", "_law_hour", "_law_day", "_law_moment", "_law_told", "_law_bad_zone_here", "_law_second", "_law_refused_here", "_law_other", "_law_odd", "_law_bad"] ["_law_well_here"] (defScope s_law_right) := ⟨rfl, rfl, rfl, by decide +kernel, rfl, by decide +kernel, by decide +kernel⟩
theorem okA_law_right (Z : Env K mg) {fd : FuncData} (F : FunD K d_law_right.name d_law_right.qual d_law_right.params d_law_right.body d_law_right.scope (d_law_right.dvs K) (d_law_right.kws K) (fAd K d_law_right.at_) fd) : FnOk P w K mg base CX0 9 (ga K "_law_right") fd ["_law_well_here"] (sp_law_right K) := by
  obtain ⟨fd_law_asked, G_law_asked, b_law_asked, k_law_asked⟩ := ok_law_asked (P := P) (w := w) (base := base) Z
  obtain ⟨fd_law_bad_minute, G_law_bad_minute, b_law_bad_minute, k_law_bad_minute⟩ := ok_law_bad_minute (P := P) (w := w) (base := base) Z
  obtain ⟨fd_law_bad_quiet, G_law_bad_quiet, b_law_bad_quiet, k_law_bad_quiet⟩ := ok_law_bad_quiet (P := P) (w := w) (base := base) Z
  obtain ⟨fd_law_bad_zone, G_law_bad_zone, b_law_bad_zone, k_law_bad_zone⟩ := ok_law_bad_zone (P := P) (w := w) (base := base) Z
  obtain ⟨fd_law_draw, G_law_draw, b_law_draw, k_law_draw⟩ := ok_law_draw (P := P) (w := w) (base := base) Z
  obtain ⟨fd_law_quiet, G_law_quiet, b_law_quiet, k_law_quiet⟩ := ok_law_quiet (P := P) (w := w) (base := base) Z
  obtain ⟨fd_law_refused, G_law_refused, b_law_refused, k_law_refused⟩ := ok_law_refused (P := P) (w := w) (base := base) Z
  have g__law_asked := Z.glo 40 (x := "_law_asked") rfl
  have g__law_bad_minute := Z.glo 42 (x := "_law_bad_minute") rfl
  have g__law_bad_quiet := Z.glo 43 (x := "_law_bad_quiet") rfl
  have g__law_bad_zone := Z.glo 44 (x := "_law_bad_zone") rfl
  have g__law_draw := Z.glo 4 (x := "_law_draw") rfl
  have g__law_quiet := Z.glo 45 (x := "_law_quiet") rfl
  have g__law_refused := Z.glo 46 (x := "_law_refused") rfl
  have z_int := Z.free 2 (x := "int") rfl
  refine F.ok (CX := CX0) sc_law_right (fun vs H Q E h => len_law_right h) (fun cdv A outer s H vs Q E hr h => ⟨t_law_right K, PSs.nox ?_, run_law_right h⟩)
  exact (pss_cons (ps_set (i := 1) sc_law_right.nd rfl (Or.inl rfl) (pe_call G_law_draw (hr.mono (by decide)) rfl g__law_draw k_law_draw b_law_draw .nil pass0 (pa_cons (pv 0) (pa_cons pe_int pa_nil))))
    (pss_cons (ps_set (i := 2) sc_law_right.nd rfl (Or.inl rfl) (pe_ix ix_seq (pe_lst (pa_cons pe_int (pa_cons pe_int (pa_cons (pe_un un_neg pe_int) (pa_cons (pe_op op_sub (pe_call G_law_draw (hr.mono (by decide)) rfl g__law_draw k_law_draw b_law_draw .nil pass0 (pa_cons (pv 0) (pa_cons pe_int pa_nil))) pe_int) pa_nil))))) (pe_call G_law_draw (hr.mono (by decide)) rfl g__law_draw k_law_draw b_law_draw .nil pass0 (pa_cons (pv 0) (pa_cons pe_int pa_nil))) (fun _ _ => rfl)))
    (pss_cons (ps_set (i := 3) sc_law_right.nd rfl (Or.inl rfl) (pe_call G_law_quiet (hr.mono (by decide)) rfl g__law_quiet k_law_quiet b_law_quiet .nil pass0 (pa_cons (pv 0) pa_nil)))
    (pss_cons (ps_set (i := 4) sc_law_right.nd rfl (Or.inl rfl) (pe_call G_law_draw (hr.mono (by decide)) rfl g__law_draw k_law_draw b_law_draw .nil pass0 (pa_cons (pv 0) (pa_cons pe_int pa_nil))))
    (pss_cons (ps_set (i := 5) sc_law_right.nd rfl (Or.inl rfl) (pe_call G_law_draw (hr.mono (by decide)) rfl g__law_draw k_law_draw b_law_draw .nil pass0 (pa_cons (pv 0) (pa_cons pe_int pa_nil))))
    (pss_cons (ps_set (i := 6) sc_law_right.nd rfl (Or.inl rfl) (pe_op op_sub (pe_call G_law_draw (hr.mono (by decide)) rfl g__law_draw k_law_draw b_law_draw .nil pass0 (pa_cons (pv 0) (pa_cons (pe_op op_mul pe_int (pe_pow2 (r := 10000000000) (by decide) ⟨by decide, by decide, by decide⟩)) pa_nil))) (pe_pow2 (r := 10000000000) (by decide) ⟨by decide, by decide, by decide⟩)))
    (pss_cons (ps_set (i := 7) sc_law_right.nd rfl (Or.inl rfl) (pe_call G_law_asked (hr.mono (by decide)) rfl g__law_asked k_law_asked b_law_asked .nil passL (pa_cons (pv 1) (pa_cons (pv 2) (pa_cons (pv 3) (pa_cons (pv 4) (pa_cons (pv 5) (pa_cons (pv 6) pa_nil))))))))
    (pss_cons (ps_set (i := 8) sc_law_right.nd rfl (Or.inl rfl) (pe_call G_law_bad_zone (hr.mono (by decide)) rfl g__law_bad_zone k_law_bad_zone b_law_bad_zone .nil pass0 (pa_cons (pv 0) pa_nil)))
    (pss_cons (ps_set (i := 9) sc_law_right.nd rfl (Or.inl rfl) (pe_call G_law_draw (hr.mono (by decide)) rfl g__law_draw k_law_draw b_law_draw .nil pass0 (pa_cons (pv 0) (pa_cons pe_int pa_nil))))
    (pss_cons (ps_set (i := 10) sc_law_right.nd rfl (Or.inl rfl) pe_bl)
    (Evl.pss_cut (ps_if (PW.pt (pw_or (pt_cmpR op_eq (pe_op op_mod (pv 1) pe_int) pe_int (nomark _)) (pw_or1 (pt_cmpR op_lt (pv 1) pe_int (nomark _))))) (pss_one (ps_set (i := 10) sc_law_right.nd rfl (Or.inl rfl) (pe_call G_law_refused (hr.mono (by decide)) rfl g__law_refused k_law_refused b_law_refused .nil pass0 (pa_cons (pv 1) (pa_cons (pv 8) (pa_cons (pv 3) (pa_cons (pv 4) (pa_cons (pv 5) (pa_cons (pv 6) pa_nil))))))))) pss_nil)
    (pss_cons (ps_set (i := 11) sc_law_right.nd rfl (Or.inl rfl) (pe_ix ix_seq (pe_lst (pa_cons (pv 2) (pa_cons (pv 8) pa_nil))) (pe_callTy call_int1 (by rfl) z_int (by decide +kernel) (pa_cons (pe_cmpR op_eq (pv 9) pe_int (nomark _)) pa_nil)) (fun _ _ => rfl)))
    (Evl.pss_cut (ps_if (PW.pt (pw_and (pt_cmpR op_gt (pv 1) pe_int (nomark _)) (pw_and (pt_cmpR op_lt (pv 1) pe_int (nomark _)) (pw_and1 (PW.pt (pw_or (pt_cmpR op_eq (pe_op op_mod (pv 1) pe_int) pe_int (nomark _)) (pw_or1 (pt_cmpR op_eq (pv 9) pe_int (nomark _))))))))) (pss_cons (ps_set (i := 12) sc_law_right.nd rfl (Or.inl rfl) (pe_call G_law_bad_quiet (hr.mono (by decide)) rfl g__law_bad_quiet k_law_bad_quiet b_law_bad_quiet .nil pass0 (pa_cons (pv 0) pa_nil)))
    (pss_one (ps_set (i := 10) sc_law_right.nd rfl (Or.inl rfl) (pe_and (pv 10) (pe_one (pe_call G_law_refused (hr.mono (by decide)) rfl g__law_refused k_law_refused b_law_refused .nil pass0 (pa_cons (pv 1) (pa_cons (pv 11) (pa_cons (pv 12) (pa_cons (pv 4) (pa_cons (pv 5) (pa_cons (pv 6) pa_nil)))))))))))) pss_nil)
    (Evl.pss_cut (ps_if (PW.pt (pw_and (pt_cmpR op_gt (pv 1) pe_int (nomark _)) (pw_and1 (PW.pt (pw_or (pt_cmpR op_eq (pe_op op_mod (pv 1) pe_int) pe_int (nomark _)) (pw_or1 (pt_cmpR op_eq (pv 9) pe_int (nomark _)))))))) (pss_cons (ps_set (i := 13) sc_law_right.nd rfl (Or.inl rfl) (pe_lst (pa_cons (pe_call G_law_bad_minute (hr.mono (by decide)) rfl g__law_bad_minute k_law_bad_minute b_law_bad_minute .nil pass0 (pa_cons (pv 0) (pa_cons pe_int pa_nil))) (pa_cons (pe_call G_law_bad_minute (hr.mono (by decide)) rfl g__law_bad_minute k_law_bad_minute b_law_bad_minute .nil pass0 (pa_cons (pv 0) (pa_cons pe_int pa_nil))) pa_nil))))
    (pss_one (ps_set (i := 10) sc_law_right.nd rfl (Or.inl rfl) (pe_and (pv 10) (pe_one (pe_call G_law_refused (hr.mono (by decide)) rfl g__law_refused k_law_refused b_law_refused .nil pass0 (pa_cons (pv 1) (pa_cons (pv 11) (pa_cons (pv 3) (pa_cons (pe_ix ix_seq (pv 13) pe_int (fun _ _ => rfl)) (pa_cons (pe_ix ix_seq (pv 13) pe_int (fun _ _ => rfl)) (pa_cons (pv 6) pa_nil)))))))))))) pss_nil)
    (pss_one (ps_ret (pe_and (pv 10) (pe_one (pe_cmpR (op_eqD hr.units) (pe_call G_law_asked (hr.mono (by decide)) rfl g__law_asked k_law_asked b_law_asked .nil passL (pa_cons (pv 1) (pa_cons (pv 2) (pa_cons (pv 3) (pa_cons (pv 4) (pa_cons (pv 5) (pa_cons (pv 6) pa_nil))))))) (pv 7) (nomark _))))))))))))))))))))
theorem ok_law_right (Z : Env K mg) : ∃ fd, FnOk P w K mg base CX0 9 (ga K "_law_right") fd ["_law_well_here"] (sp_law_right K) ∧ Binds K fd ["_law_well_here"] [] ∧ PySem.W.keepIn K (.ref (ga K "_law_right")) = true := by
  obtain ⟨fd, F⟩ := Z.c.def_ 21 (d := d_law_right) rfl
  exact ⟨fd, okA_law_right Z F, F.bindsN fun _ _ _ _ _ _ us hl => match us, hl with | [_], _ => rfl, F.kp⟩
theorem sc_law_well : FnScope ["_law_cell"] ["_law_cell"] (defScope s_law_well) := ⟨rfl, rfl, rfl, by decide +kernel, rfl, by decide +kernel, by decide +kernel⟩
theorem okA_law_well (Z : Env K mg) {fd : FuncData} (F : FunD K d_law_well.name d_law_well.qual d_law_well.params d_law_well.body d_law_well.scope (d_law_well.dvs K) (d_law_well.kws K) (fAd K d_law_well.at_) fd) : FnOk P w K mg base CX0 1 (ga K "_law_well") fd ["_law_cell"] (sp_law_well K) := by
  refine F.ok (CX := CX0) sc_law_well (fun vs H Q E h => len_law_well h) (fun cdv A outer s H vs Q E hr h => ⟨t_law_well K, PSs.nox ?_, run_law_well h⟩)
  exact (pss_one (ps_ret (pe_lst (pa_cons (pe_op op_fdiv (pv 0) pe_int) (pa_cons (pe_op op_mod (pv 0) pe_int) (pa_cons (pe_op op_mod (pv 0) pe_int) (pa_cons pe_int pa_nil)))))))
theorem ok_law_well (Z : Env K mg) : ∃ fd, FnOk P w K mg base CX0 1 (ga K "_law_well") fd ["_law_cell"] (sp_law_well K) ∧ Binds K fd ["_law_cell"] [] ∧ PySem.W.keepIn K (.ref (ga K "_law_well")) = true := by
  obtain ⟨fd, F⟩ := Z.c.def_ 22 (d := d_law_well) rfl
  exact ⟨fd, okA_law_well Z F, F.bindsN fun _ _ _ _ _ _ us hl => match us, hl with | [_], _ => rfl, F.kp⟩
theorem sc_law : FnScope ["_law_script", "_law_cell"] ["_law_script"] (defScope s_law) := ⟨rfl, rfl, rfl, by decide +kernel, rfl, by decide +kernel, by decide +kernel⟩
theorem okA_law (Z : Env K mg) {fd : FuncData} (F : FunD K d_law.name d_law.qual d_law.params d_law.body d_law.scope (d_law.dvs K) (d_law.kws K) (fAd K d_law.at_) fd) : FnOk P w K mg base CX0 10 (ga K "law") fd ["_law_script"] (sp_law K) := by
  obtain ⟨fd_law_cell_at, G_law_cell_at, b_law_cell_at, k_law_cell_at⟩ := ok_law_cell_at (P := P) (w := w) (base := base) Z
  obtain ⟨fd_law_right, G_law_right, b_law_right, k_law_right⟩ := ok_law_right (P := P) (w := w) (base := base) Z
  obtain ⟨fd_law_well, G_law_well, b_law_well, k_law_well⟩ := ok_law_well (P := P) (w := w) (base := base) Z
  have g__law_cell_at := Z.glo 47 (x := "_law_cell_at") rfl
  have g__law_right := Z.glo 48 (x := "_law_right") rfl
  have g__law_well := Z.glo 49 (x := "_law_well") rfl
  refine F.ok (CX := CX0) sc_law (fun vs H Q E h => len_law h) (fun cdv A outer s H vs Q E hr h => ⟨t_law K, PSs.nox ?_, run_law h⟩)
  exact (pss_cons (ps_for PassesOwn.never rfl (pi_list (pe_op op_cat (pe_lst (pa_cons (pe_call G_law_cell_at (hr.mono (by decide)) rfl g__law_cell_at k_law_cell_at b_law_cell_at .nil pass0 (pa_cons (pv 0) (pa_cons pe_int pa_nil))) pa_nil)) (pe_slice sl_list (pv 0) (po_some pe_int) (po_some pe_int)))) (pg_name (i := 1) sc_law.nd rfl (Or.inl rfl))
    (pss_one (ps_if (pt_not (pt_val (pe_call G_law_right (hr.mono (by decide)) rfl g__law_right k_law_right b_law_right .nil pass0 (pa_cons (pe_call G_law_well (hr.mono (by decide)) rfl g__law_well k_law_well b_law_well .nil pass0 (pa_cons (pv 1) pa_nil)) pa_nil)))) (pss_one (ps_ret pe_bl)) pss_nil)))
    (pss_one (ps_ret pe_bl)))
theorem ok_law (Z : Env K mg) : ∃ fd, FnOk P w K mg base CX0 10 (ga K "law") fd ["_law_script"] (sp_law K) ∧ Binds K fd ["_law_script"] [] ∧ PySem.W.keepIn K (.ref (ga K "law")) = true := by
  obtain ⟨fd, F⟩ := Z.c.def_ 23 (d := d_law) rfl
  exact ⟨fd, okA_law Z F, F.bindsN fun _ _ _ _ _ _ us hl => match us, hl with | [_], _ => rfl, F.kp⟩
end
/-! ### the head -/
abbrev R : PySem.W.OpenRow := PySem.W.OpenLaw.row PySem.Challenge.rw_bellsaway_k05_what_is_no_clock
abbrev hk : PySem.W.Hook := hookM 5
def ob (s : PySem.W.SharedT) : AlM := obsM 5 (HandSHeadRun.getT s)
theorem ob_eq (s : PySem.W.SharedT) : ob s = hk.obs s.abs := by
  have e : HandSHeadRun.getT s = s.abs.heap.get? := funext (HandSHeadRun.getT_eq s)
  show obsM _ _ = obsM _ _
  rw [e]
theorem run (w : World) : HandSHeadRun.RunEq R (PySem.W.view R.prog [42]) hk ob 4000 ("BellError" :: "NoClock" :: "NoHappening" :: "NoFit" :: "NoWish" :: "NoRoad" :: "NoTime" :: "NoRow" :: "Backward" :: "NoNumber" :: "Fallen" :: "NoBook" :: "NoText" :: "is_whole" :: "is_between" :: "DAY" :: "HOUR" :: "sure_zone" :: "sure_quiet" :: "sure_minute" :: "shown" :: "is_quiet" :: "loud_from" :: "quiet_ahead" :: "quiet_count" :: "next_hour" :: "next_day" :: "_law_cell_at" :: "_law_mixed" :: "_law_well" :: "_law_draw" :: "_law_quiet" :: "_law_bad_zone" :: "_law_bad_quiet" :: "_law_bad_minute" :: "_law_asked" :: "_law_refused" :: "_law_right" :: []) w := by
  intro os
  kernel_rfl
theorem facts {P : Program} {w : World} {K : PySem.W.Frag} {h : Heap} {mg : Str → Option Value} {f : Addr} (X : K.In h) (G : h.Ns mainGlobals mg) (hfa : mg ("law" : Str) = some (.ref f)) (c : He.SaysD fa fn K ∧ (xs.all fun f => f K) = true) :
    ∃ fd : FuncData, (∀ (s : Shared) (v : Value), BindsTo s fd ⟨[v], []⟩ [("_law_script", v)]) ∧ ∀ base : Heap, K.In base → base.Ns mainGlobals mg → FnOk P w K mg base CX0 10 f fd ["_law_script"] (sp_law K) := by
  have Z : Env K mg := ⟨c.1, ⟨h, X, G⟩, c.2⟩
  obtain ⟨fd, F⟩ := c.1.def_ 23 (d := d_law) rfl
  have e := hfa.symm.trans (Z.glo 50 rfl)
  cases e
  have b := FunD.bindsA (ps := ["_law_script"]) F fun _ _ _ _ _ _ us hl => match us, hl with | [_], _ => rfl
  exact ⟨fd, fun s v => b s [v] rfl, fun base _ _ => okA_law Z F⟩
end Pr
open PySem PySem.W PySem.Calls PyProof.Rows
set_option maxRecDepth 100000 in
set_option maxHeartbeats 0 in
theorem PySem.Challenge.cw_bellsaway_k05_what_is_no_clock_holds : PySem.Challenge.rw_bellsaway_k05_what_is_no_clock.Holds := by
  w_on; o_law
  refine HandSHeadRun.head_any (r := OpenLaw.row PySem.Challenge.rw_bellsaway_k05_what_is_no_clock) (q := view (OpenLaw.row PySem.Challenge.rw_bellsaway_k05_what_is_no_clock).prog [42]) (H := Pr.hk) (ob := Pr.ob) (M := 4000) (loose := ("BellError" :: "NoClock" :: "NoHappening" :: "NoFit" :: "NoWish" :: "NoRoad" :: "NoTime" :: "NoRow" :: "Backward" :: "NoNumber" :: "Fallen" :: "NoBook" :: "NoText" :: "is_whole" :: "is_between" :: "DAY" :: "HOUR" :: "sure_zone" :: "sure_quiet" :: "sure_minute" :: "shown" :: "is_quiet" :: "loud_from" :: "quiet_ahead" :: "quiet_count" :: "next_hour" :: "next_day" :: "_law_cell_at" :: "_law_mixed" :: "_law_well" :: "_law_draw" :: "_law_quiet" :: "_law_bad_zone" :: "_law_bad_quiet" :: "_law_bad_minute" :: "_law_asked" :: "_law_refused" :: "_law_right" :: [])) (d := HandSHeadRun.topDef (OpenLaw.row PySem.Challenge.rw_bellsaway_k05_what_is_no_clock).prog 42) (kwd := []) Pr.ob_eq
    (by kernel_rfl) (fun s => by kernel_rfl) Pr.run (by kernel_rfl) (by kernel_rfl) (by kernel_rfl) (by rfl) (by first | assumption | decide +kernel) (by decide +kernel) ⟨rfl, rfl, rfl, rfl, rfl, by decide +kernel⟩ ?hw ?hc
  case hw => w_witness2
  case hc =>
    refine L2.walk_ofE (l := PySem.Challenge.rw_bellsaway_k05_what_is_no_clock) (n := 63) (k := 10) (x := "_law_script") (CX := L2.CX0) rfl (by decide) (by kernel_rfl) ⟨rfl, by decide, by decide⟩ ?F (fun _ _ _ _ z => z)
    intro w mg fa h Y G hmg0
    obtain ⟨K, KX, c⟩ := Y
    have hmg : mg ("law" : PySem.Str) = some (.ref fa) := by
      have e : (HandSHeadRun.topDef (OpenLaw.row PySem.Challenge.rw_bellsaway_k05_what_is_no_clock).prog 42).name = ("law" : PySem.Str) := by kernel_rfl
      rw [← e]
      exact hmg0
    obtain ⟨fd, hb, hF⟩ := Pr.facts (P := (PySem.Challenge.rw_bellsaway_k05_what_is_no_clock).prog) (w := w) KX G hmg c
    exact ⟨K, fd, Pr.sp_law K, KX, hb, fun H a ns hl _ hS => ⟨a, ns, rfl, hS, hl, fun _ => rfl⟩, hF⟩

