import PyProof.Rows.All
import Wide.All
import OpenK.AllK
import Wide.FinOn
import HandS.ForMost
import HandS.TryOnly
import HandS.SortInts
import HandS.StrMore
import HandS.Style
import KE.LtSeq
import HandS.More
import KE.LtSeq
import PySem.Challenge.RW_tidemark_k42_whole_numbers_and_rows
set_option Elab.async false
set_option linter.all false
set_option maxRecDepth 100000
namespace Tm
open PySem PySem.Spec PyProof.Rows L2

/-! ### heaps -/
/-- the deck: a list of draws -/
def DkOk (d : Addr) (H : Hp) : Prop := ∃ ds : List Int, H d = some (.lst (ds.map V.int)) ∧ (∀ x ∈ ds, 0 ≤ x ∧ x < 1000003) ∧ ds.length ≤ 10000
/-- all but the deck at d stays as it is; the deck is a deck -/
def Dx (d : Addr) (H H' : Hp) : Prop := (∀ a o, a ≠ d → H a = some o → H' a = some o) ∧ DkOk d H'
/-- what a body knows: since H0 all that was tracked (but the deck) is as it was; the objects of G are new and its own -/
structure Kn (d : Option Addr) (H0 : Hp) (G : List (Addr × HO)) (H : Hp) : Prop where
  keep : ∀ a o, some a ≠ d → H0 a = some o → H a = some o
  dk : ∀ a, d = some a → DkOk a H
  dk0 : ∀ a, d = some a → H0 a ≠ none
  nd : (G.map Prod.fst).Nodup
  nw : ∀ e ∈ G, H0 e.1 = none
  at_ : ∀ e ∈ G, H e.1 = some e.2
theorem DkOk.some {d : Addr} {H : Hp} (h : DkOk d H) : H d ≠ none := by
  obtain ⟨ds, e, _⟩ := h
  rw [e]; exact fun z => nomatch z
theorem Kn.nil {H : Hp} : Kn none H [] H := ⟨fun _ _ _ h => h, (fun _ z => nomatch z), (fun _ z => nomatch z), List.nodup_nil, (fun _ z => nomatch z), (fun _ z => nomatch z)⟩
theorem Kn.deck {d : Addr} {H : Hp} (h : DkOk d H) : Kn (some d) H [] H := ⟨fun _ _ _ h => h, fun _ z => by cases z; exact h, fun _ z => by cases z; exact h.some, List.nodup_nil, (fun _ z => nomatch z), (fun _ z => nomatch z)⟩
section
variable {d : Option Addr} {H0 H H' : Hp} {G : List (Addr × HO)} {p : Addr} {o o' : HO}
theorem Kn.fresh (k : Kn d H0 G H) (h : H p = none) : H0 p = none := by
  cases e : H0 p with
  | none => rfl
  | some u =>
    by_cases z : some p = d
    · exact absurd h (k.dk p z.symm).some
    · rw [k.keep p u z e] at h; cases h
theorem Kn.new (k : Kn d H0 G H) (h : H p = none) : Kn d H0 ((p, o) :: G) (upd H p o) := by
  have hd : ∀ a, d = some a → a ≠ p := fun a z e => by subst e; exact absurd h (k.dk a z).some
  have hg : ∀ e ∈ G, e.1 ≠ p := fun e he z => by have := k.at_ e he; rw [z, h] at this; cases this
  refine ⟨fun a u na e => ?_, fun a z => ?_, k.dk0, ?_, fun e he => ?_, fun e he => ?_⟩
  · have e1 := k.keep a u na e
    rw [upd_ne (ne_of_none e1 h)]; exact e1
  · obtain ⟨ds, e1, r⟩ := k.dk a z
    exact ⟨ds, by rw [upd_ne (hd a z)]; exact e1, r⟩
  · refine List.nodup_cons.mpr ⟨fun hm => ?_, k.nd⟩
    obtain ⟨e, he, z⟩ := List.mem_map.mp hm
    exact hg e he z
  · rcases List.mem_cons.mp he with rfl | he
    · exact k.fresh h
    · exact k.nw e he
  · rcases List.mem_cons.mp he with rfl | he
    · exact upd_same
    · rw [upd_ne (hg e he)]; exact k.at_ e he
theorem Kn.get (k : Kn d H0 G H) (i : Nat) (h : G[i]? = some (p, o)) : H p = some o := k.at_ (p, o) (List.mem_of_getElem? h)
theorem Kn.nw_at (k : Kn d H0 G H) (i : Nat) (h : G[i]? = some (p, o)) : H0 p = none := k.nw (p, o) (List.mem_of_getElem? h)
/-- one of the body's own objects is changed -/
theorem Kn.put (k : Kn d H0 G H) (i : Nat) (h : G[i]? = some (p, o)) : Kn d H0 (G.set i (p, o')) (upd H p o') := by
  have np := k.nw_at i h
  have hd : ∀ a, d = some a → a ≠ p := fun a z e => by subst e; exact absurd np (k.dk0 a z)
  obtain ⟨hi, hgi⟩ := List.getElem?_eq_some_iff.mp h
  have hm : (G.set i (p, o')).map Prod.fst = G.map Prod.fst := by
    rw [List.map_set]
    refine List.ext_getElem? fun j => ?_
    by_cases hj : i = j
    · subst hj
      rw [List.getElem?_set_self (by simpa using hi), List.getElem?_map, h]; rfl
    · rw [List.getElem?_set_ne hj]
  refine ⟨fun a u na e => ?_, fun a z => ?_, k.dk0, by rw [hm]; exact k.nd, fun e he => ?_, fun e he => ?_⟩
  · have e1 := k.keep a u na e
    rw [upd_ne (ne_of_none e np)]; exact e1
  · obtain ⟨ds, e1, r⟩ := k.dk a z
    exact ⟨ds, by rw [upd_ne (hd a z)]; exact e1, r⟩
  · have : e.1 ∈ (G.set i (p, o')).map Prod.fst := List.mem_map_of_mem he
    rw [hm] at this
    obtain ⟨e', he', z⟩ := List.mem_map.mp this
    rw [← z]; exact k.nw e' he'
  · obtain ⟨j, hj⟩ := List.getElem?_of_mem he
    by_cases hij : i = j
    · subst hij
      rw [List.getElem?_set_self hi] at hj
      cases hj
      exact upd_same
    · rw [List.getElem?_set_ne hij] at hj
      have hne : e.1 ≠ p := fun z => by
        have h1 : (G.map Prod.fst)[j]? = some e.1 := by rw [List.getElem?_map, hj]; rfl
        have h2 : (G.map Prod.fst)[i]? = some e.1 := by rw [List.getElem?_map, h, z]; rfl
        exact hij (nd_ix k.nd h2 h1)
      rw [upd_ne hne]; exact k.at_ e (List.mem_of_getElem? hj)
theorem Kn.same (k : Kn d H0 G H) (s : Same H H') : Kn d H0 G H' :=
  ⟨fun a u na e => s a u (k.keep a u na e), fun a z => let ⟨ds, e, r⟩ := k.dk a z; ⟨ds, s a _ e, r⟩, k.dk0, k.nd, k.nw, fun e he => s _ _ (k.at_ e he)⟩
theorem Kn.ret (k : Kn d H0 G H) (h : H p = none) (s : Same H H') (e : H' p = some o) : Kn d H0 ((p, o) :: G) H' := by
  have hg : ∀ e ∈ G, e.1 ≠ p := fun e he z => by have := k.at_ e he; rw [z, h] at this; cases this
  have k' := k.same s
  refine ⟨k'.keep, k'.dk, k'.dk0, ?_, fun u hu => ?_, fun u hu => ?_⟩
  · refine List.nodup_cons.mpr ⟨fun hm => ?_, k.nd⟩
    obtain ⟨e, he, z⟩ := List.mem_map.mp hm
    exact hg e he z
  · rcases List.mem_cons.mp hu with rfl | hu
    · exact k.fresh h
    · exact k.nw u hu
  · rcases List.mem_cons.mp hu with rfl | hu
    · exact e
    · exact k'.at_ u hu
theorem Kn.forget (k : Kn d H0 G H) (n : Nat) : Kn d H0 (G.drop n) H :=
  ⟨k.keep, k.dk, k.dk0, by rw [List.map_drop]; exact k.nd.sublist (List.drop_sublist _ _), fun e he => k.nw e (List.mem_of_mem_drop he), fun e he => k.at_ e (List.mem_of_mem_drop he)⟩
theorem Kn.none_ (k : Kn d H0 G H) : Kn d H0 [] H := ⟨k.keep, k.dk, k.dk0, List.nodup_nil, (fun _ z => nomatch z), (fun _ z => nomatch z)⟩
end
section
variable {d : Addr} {H0 H H' : Hp} {G : List (Addr × HO)} {p : Addr} {o o' : HO}
theorem Kn.dx (k : Kn (some d) H0 G H) (x : Dx d H H') : Kn (some d) H0 G H' :=
  ⟨fun a u na e => x.1 a u (fun z => na (by rw [z])) (k.keep a u na e), fun a z => by cases z; exact x.2, k.dk0, k.nd, k.nw,
    fun e he => x.1 _ _ (fun z => k.dk0 d rfl (z ▸ k.nw e he)) (k.at_ e he)⟩
theorem Kn.dk' (k : Kn (some d) H0 G H) : DkOk d H := k.dk d rfl
theorem Kn.toDx (k : Kn (some d) H0 G H) : Dx d H0 H := ⟨fun a o na e => k.keep a o (fun z => na (Option.some.inj z)) e, k.dk'⟩
/-- a call that makes a new object and draws -/
theorem Kn.retD (k : Kn (some d) H0 G H) (h : H p = none) (x : Dx d H H') (e : H' p = some o) : Kn (some d) H0 ((p, o) :: G) H' := by
  have hg : ∀ e ∈ G, e.1 ≠ p := fun e he z => by have := k.at_ e he; rw [z, h] at this; cases this
  have k' := k.dx x
  refine ⟨k'.keep, k'.dk, k'.dk0, ?_, fun u hu => ?_, fun u hu => ?_⟩
  · refine List.nodup_cons.mpr ⟨fun hm => ?_, k.nd⟩
    obtain ⟨e, he, z⟩ := List.mem_map.mp hm
    exact hg e he z
  · rcases List.mem_cons.mp hu with rfl | hu
    · exact k.fresh h
    · exact k.nw u hu
  · rcases List.mem_cons.mp hu with rfl | hu
    · exact e
    · exact k'.at_ u hu
end
theorem Kn.toSame {H0 H : Hp} {G : List (Addr × HO)} (k : Kn none H0 G H) : Same H0 H := fun a o e => k.keep a o (fun z => nomatch z) e
theorem Kn.sq {K : PySem.W.Frag} {d : Option Addr} {H0 H : Hp} {G : List (Addr × HO)} {a : Addr} {xs : List V} (k : Kn d H0 G H) (h : SqL K H0 a xs) (n : some a ≠ d) : SqL K H a xs := by
  rcases h with (h | ⟨o, h⟩) | h
  · exact .inl (.inl (k.keep _ _ n h))
  · exact .inl (.inr ⟨o, k.keep _ _ n h⟩)
  · exact .inr h

/-! ### steps of a reading -/
section
variable {X : Cx} {K : PySem.W.Frag} {σ : L2.St} {H : Hp} {Q : VK} {v : V} {i j : Int} {n : Nat} {ta tb te : TE} {r : R2} {D : Ends} {t u : TS} {tt uu : TT} {QB : Bool → Hp → Prop}
theorem s_var (h : σ[n]? = some (some v)) (q : Q v H) : tVar n σ H Q := ⟨v, h, q⟩
theorem s_c (q : Q v H) : tC v σ H Q := q
theorem s_op (q : ta σ H fun x H1 => tb σ H1 fun y H2 => r x y H2 Q) : tOp r ta tb σ H Q := q
theorem s_I0 {g : Int → Int → V} (q : Q (g i j) H) : rI0 g (.int i) (.int j) H Q := ⟨i, j, rfl, rfl, q⟩
theorem s_I {C : Int → Int → Prop} {g : Int → Int → V} (h : C i j) (q : Q (g i j) H) : rI C g (.int i) (.int j) H Q := ⟨i, j, rfl, rfl, h, q⟩
theorem s_un {f : V → Hp → VK → Prop} (q : ta σ H fun x H1 => f x H1 Q) : tUn f ta σ H Q := q
theorem s_U {g : Int → V} (q : Q (g i) H) : rU g (.int i) H Q := ⟨i, rfl, q⟩
theorem s_eqI (q : Q (.bl (decide (i = j))) H) : rEq (.int i) (.int j) H Q := ⟨rfl, by have e : decide (V.int i = V.int j) = decide (i = j) := by simp
                                                                                       rw [e]; exact q⟩
theorem s_neI (q : Q (.bl (!decide (i = j))) H) : rNe (.int i) (.int j) H Q := ⟨rfl, by have e : decide (V.int i = V.int j) = decide (i = j) := by simp
                                                                                        rw [e]; exact q⟩
theorem s_test (q : te σ H fun x H' => ∃ k, x = .bl k ∧ QB k H') : tTest te σ H QB := q
theorem s_B (q : te σ H fun x H' => ∃ k, x = .bl k ∧ QB k H') : tB te σ H QB := q
theorem s_bl {b : Bool} {P : Bool → Prop} (q : P b) : ∃ k, V.bl b = .bl k ∧ P k := ⟨b, rfl, q⟩
theorem s_seq (q : t { D with nx := u D } σ H) : tSeq t u D σ H := q
theorem s_sig {σ' : L2.St} (e : σ = σ') (q : t D σ' H) : t D σ H := e ▸ q
theorem s_asg {g : TG} (q : te σ H fun x H1 => g x σ H1 D.nx) : tAsg te g D σ H := q
theorem s_name {Q : L2.St → Hp → Prop} (q : Q (σ.set n (some v)) H) : gName n v σ H Q := q
theorem s_ret (q : te σ H D.rt) : tRet te D σ H := q
theorem s_drop (q : te σ H fun _ H1 => D.nx σ H1) : tDrop te D σ H := q
theorem s_next (q : D.nx σ H) : tNext D σ H := q
theorem s_ifS (q : tt σ H fun b H1 => if b = true then t D σ H1 else u D σ H1) : tIfS tt t u D σ H := q
theorem s_if (q : tt σ H fun c H1 => if c = true then ta σ H1 Q else tb σ H1 Q) : tIf tt ta tb σ H Q := q
theorem s_and (q : tt σ H fun c H1 => if c = true then uu σ H1 QB else QB false H1) : tAnd tt uu σ H QB := q
theorem s_or (q : tt σ H fun c H1 => if c = true then QB true H1 else uu σ H1 QB) : tOr tt uu σ H QB := q
theorem s_not (q : tt σ H fun c H1 => QB (!c) H1) : tNot tt σ H QB := q
theorem s_andV (q : ta σ H fun x H1 => ∃ c, x = .bl c ∧ if c = true then tb σ H1 Q else Q (.bl false) H1) : tAndV ta tb σ H Q := q
theorem s_orV (q : ta σ H fun x H1 => ∃ c, x = .bl c ∧ if c = true then Q (.bl true) H1 else tb σ H1 Q) : tOrV ta tb σ H Q := q
theorem s_aug {ti : TIp} (h : σ[n]? = some (some v)) (q : te σ H fun y H1 => ti v y H1 fun z H2 => D.nx (σ.set n (some z)) H2) : tAug n te ti D σ H := ⟨v, h, q⟩
theorem s_ipI {f : Int → Int → Int} (q : Q (.int (f i j)) H) : ipI f (.int i) (.int j) H Q := ⟨i, j, rfl, rfl, q⟩
theorem s_nil {Q : List V → Hp → Prop} (q : Q [] H) : tNil σ H Q := q
theorem s_cons {tr : TA} {Q : List V → Hp → Prop} (q : te σ H fun x H1 => tr σ H1 fun xs H2 => Q (x :: xs) H2) : tCons te tr σ H Q := q
theorem s_call {sp : Sp} {dvs : List V} {E : XK} {t : TA} (q : t σ H fun vs H1 => sp (vs ++ dvs) H1 Q E) : tCall sp dvs E t σ H Q := q
theorem s_call0 {sp : Sp} {E : XK} {t : TA} (q : t σ H fun vs H1 => sp vs H1 Q E) : tCall sp [] E t σ H Q := by
  unfold tCall
  simp only [List.append_nil]
  exact q
theorem s_CB {r : List V → Hp → VK → Prop} {t : TA} (q : t σ H fun vs H1 => r vs H1 Q) : tCB r t σ H Q := q
def nwL (xs : List V) (H : Hp) (Q : VK) : Prop := xs.length ≤ sizeLine ∧ ∀ p, H p = none → Q (.ref p) (upd H p (.lst xs))
def nwT (xs : List V) (H : Hp) (Q : VK) : Prop := xs.length ≤ sizeLine ∧ ∀ p, H p = none → Q (.ref p) (upd H p (.tup xs))
theorem s_lst {t : TA} (q : t σ H fun xs H1 => nwL xs H1 Q) : tLst t σ H Q := q
theorem s_tup {t : TA} (q : t σ H fun xs H1 => nwT xs H1 Q) : tTup t σ H Q := q
theorem s_sl {r : V → Option Int → Option Int → Hp → VK → Prop} {tl th : TO} (q : te σ H fun x H1 => tl σ H1 fun l H2 => th σ H2 fun u H3 => r x l u H3 Q) : tSl r te tl th σ H Q := q
theorem s_part {Q : Option Int → Hp → Prop} (q : te σ H fun x H1 => ∃ i, x = .int i ∧ Q (some i) H1) : tPart te σ H Q := q
theorem s_nopart {Q : Option Int → Hp → Prop} (q : Q none H) : tNoPart σ H Q := q
theorem s_isI {P : Int → Prop} (q : P i) : ∃ k, V.int i = .int k ∧ P k := ⟨i, rfl, q⟩
/-- new objects -/
theorem n_lst {d : Option Addr} {H0 : Hp} {G : List (Addr × HO)} {xs : List V} (k : Kn d H0 G H) (hz : xs.length ≤ 1000000) (q : ∀ p H', Kn d H0 ((p, .lst xs) :: G) H' → Q (.ref p) H') :
    nwL xs H Q := ⟨Nat.le_trans hz (by decide), fun p hp => q p _ (k.new hp)⟩
theorem n_tup {d : Option Addr} {H0 : Hp} {G : List (Addr × HO)} {xs : List V} (k : Kn d H0 G H) (hz : xs.length ≤ 1000000) (q : ∀ p H', Kn d H0 ((p, .tup xs) :: G) H' → Q (.ref p) H') :
    nwT xs H Q := ⟨Nat.le_trans hz (by decide), fun p hp => q p _ (k.new hp)⟩
/-- known subscripts, lengths -/
theorem s_ixL {a : Addr} {xs : List V} (h : SqL K H a xs) (e : atI xs i = some v) (q : Q v H) : rIxL K (.ref a) (.int i) H Q := ⟨a, xs, i, v, rfl, rfl, h, e, q⟩
theorem s_ixT {a : Addr} {xs : List V} (h : SqT K H a xs) (e : atI xs i = some v) (q : Q v H) : rIxT K (.ref a) (.int i) H Q := ⟨a, xs, i, v, rfl, rfl, h, e, q⟩
theorem ite_no {c : Bool} {A B : Prop} (h : c = false) (b : B) : if c = true then A else B := by rw [h]; exact iteF b
theorem ite_yes {c : Bool} {A B : Prop} (h : c = true) (a : A) : if c = true then A else B := by rw [h]; exact iteT a
theorem ite_d {p : Prop} [Decidable p] {A B : Prop} (h1 : p → A) (h2 : ¬ p → B) : if decide p = true then A else B := by
  by_cases h : p
  · rw [if_pos (decide_eq_true h)]; exact h1 h
  · rw [if_neg (by simp [h])]; exact h2 h
end

/-! ### the built-ins' readings by name -/
def rIntC : List V → Hp → VK → Prop := fun xs H Q => (∃ i, xs = [.int i] ∧ Q (.int i) H) ∨ ∃ k, xs = [.bl k] ∧ Q (.int (if k then 1 else 0)) H
def rAbsC : List V → Hp → VK → Prop := fun xs H Q => ∃ i, xs = [.int i] ∧ Q (.int (if i < 0 then -i else i)) H
def rLenC (K : PySem.W.Frag) : List V → Hp → VK → Prop := fun xs H Q => ∃ p ys, xs = [.ref p] ∧ (SqL K H p ys ∨ SqT K H p ys) ∧ Q (.int ys.length) H
def rTupleC (K : PySem.W.Frag) : List V → Hp → VK → Prop := fun xs H Q => ∃ p ys, xs = [.ref p] ∧ ((SqL K H p ys ∧ ∀ l, H l = none → Q (.ref l) (upd H l (.tup ys))) ∨ (SqT K H p ys ∧ Q (.ref p) H))
def rListC (K : PySem.W.Frag) : List V → Hp → VK → Prop := fun xs H Q => ∃ p ys, xs = [.ref p] ∧ (SqL K H p ys ∨ SqT K H p ys) ∧ ∀ l, H l = none → Q (.ref l) (upd H l (.lst ys))
section
variable {X : Cx}
theorem kIxL {K : PySem.W.Frag} (h : X.K = K := by rfl) : IxR X (rIxL K) := by subst h; exact ix_list
theorem kIxT {K : PySem.W.Frag} (h : X.K = K := by rfl) : IxR X (rIxT K) := by subst h; exact ix_tup
theorem kLen {K : PySem.W.Frag} (h : X.K = K := by rfl) : CallR X (.builtin "len") (rLenC K) := by subst h; exact call_len_seq
theorem kList {K : PySem.W.Frag} (h : X.K = K := by rfl) : CallR X (.type "list") (rListC K) := by subst h; exact call_list_of
theorem kTuple {K : PySem.W.Frag} (h : X.K = K := by rfl) : CallR X (.type "tuple") (rTupleC K) := by subst h; exact call_tuple_of
theorem kSlL {K : PySem.W.Frag} (h : X.K = K := by rfl) : SlR X (rSlL K) := by subst h; exact sl_list
theorem kSlT {K : PySem.W.Frag} (h : X.K = K := by rfl) : SlR X (rSlT K) := by subst h; exact sl_tup
theorem kIn {K : PySem.W.Frag} (h : X.K = K := by rfl) : OpR X (compareOp .In) (rIn K false) := by subst h; exact op_in_seq
theorem kNotIn {K : PySem.W.Frag} (h : X.K = K := by rfl) : OpR X (compareOp .NotIn) (rIn K true) := by subst h; exact op_notIn_seq
theorem kEqD {K : PySem.W.Frag} (hu : X.A.units + 64 < cLine) (h : X.K = K := by rfl) : OpR X (compareOp .Eq) (rEqD K) := by subst h; exact op_eqD hu
theorem kNeD {K : PySem.W.Frag} (hu : X.A.units + 64 < cLine) (h : X.K = K := by rfl) : OpR X (compareOp .NotEq) (rNeD K) := by subst h; exact op_neD hu
theorem kIxD {K : PySem.W.Frag} {w : World} (h : X.K = K := by rfl) (h' : X.w = w := by rfl) : IxR X (rIxD K w) := by subst h; subst h'; exact ix_kdict
theorem pe_revLK {K : PySem.W.Frag} {e : Expr} {te : TE} {k : Nat} {p1 p2 p3 pos : Pos} (he : PE X e te) (h : X.K = K := by rfl) : PE X (.Subscript e (.Slice none none (some (.UnaryOp .USub (.Constant (.int 1) k p1) p2)) p3) pos) (tRevL K te) := by subst h; exact pe_revL he
theorem kSum {K : PySem.W.Frag} (hc : X.calm = true) (h : X.K = K := by rfl) : CallR X (.builtin "sum") (rSum K) := by subst h; exact cr_sum hc
theorem kMax {K : PySem.W.Frag} (hc : X.calm = true) (h : X.K = K := by rfl) : CallR X (.builtin "max") (rMax K) := by subst h; exact cr_max hc
theorem kMin {K : PySem.W.Frag} (hc : X.calm = true) (h : X.K = K := by rfl) : CallR X (.builtin "min") (rMin K) := by subst h; exact cr_min hc
theorem kAny {K : PySem.W.Frag} (hc : X.calm = true) (h : X.K = K := by rfl) : CallR X (.builtin "any") (rAny K) := by subst h; exact cr_any hc
theorem kAll {K : PySem.W.Frag} (hc : X.calm = true) (h : X.K = K := by rfl) : CallR X (.builtin "all") (rAll K) := by subst h; exact cr_all hc
theorem kCatT {K : PySem.W.Frag} (h : X.K = K := by rfl) : OpR X (binaryOp .Add) (rCatT K) := by subst h; exact op_catT
theorem kSortedI {K : PySem.W.Frag} (h : X.K = K := by rfl) : CallR X (.builtin "sorted") (rSortedI K) := by subst h; exact cr_sortedI
theorem pi_listK {K : PySem.W.Frag} {tg l : Expr} {tl : TE} (hl : PE X l tl) (h : X.K = K := by rfl) : PI X tg l (iList K tl) := by subst h; exact pi_list hl
theorem pi_tupK {K : PySem.W.Frag} {tg l : Expr} {tl : TE} (hl : PE X l tl) (h : X.K = K := by rfl) : PI X tg l (iTup K tl) := by subst h; exact pi_tup hl
theorem pe_bm0K {K : PySem.W.Frag} {o : Expr} {to : TE} {name : Str} {apos cpos : Pos} {T id : String} {r : V → List V → Hp → VK → Prop} (pa : PlainAttrs T) (slot : Slot T name id) (hty : typeOf (.builtin id) = pure (.type "method_descriptor")) (hm : MtR X id r) (ho : PE X o to)
    (hbase : attributeBase o name X.env (eval o X.env) = eval o X.env := by rfl) (hline : (apos.endLine == cpos.line) = true := by rfl) (h : X.K = K := by rfl) : PE X (.Call (.Attribute o name apos) [] [] cpos) (tBM0 K T r to) := by
  subst h; exact pe_bm0 pa slot hty hm ho hbase hline
theorem pe_bmK {K : PySem.W.Frag} {o e : Expr} {es : List Expr} {to : TE} {t : TA} {name : Str} {apos cpos : Pos} {T id : String} {r : V → List V → Hp → VK → Prop} (pa : PlainAttrs T) (slot : Slot T name id) (hty : typeOf (.builtin id) = pure (.type "method_descriptor")) (hm : MtR X id r) (ho : PE X o to) (ha : PA X (e :: es) t)
    (hbase : attributeBase o name X.env (eval o X.env) = eval o X.env := by rfl)
    (hfew : ((backTo cpos (starEach (e :: es) X.env)).all (fun x => !x.1) && (backToKw cpos (keywordEach [] X.env)).all (fun x => x.1.isSome)
      && decide ((e :: es).length + ([] : List Keyword).length + (if ([] : List Keyword).isEmpty then 0 else 1) < 30)) = true := by rfl)
    (hline : (apos.endLine == cpos.line) = true := by rfl) (hs : starEach (e :: es) X.env = (false, eval e X.env) :: starEach es X.env := by rfl) (hplain : (backTo cpos (starEach es X.env)).any (·.1) = false := by rfl) (h : X.K = K := by rfl) :
    PE X (.Call (.Attribute o name apos) (e :: es) [] cpos) (tBM K T r to t) := by
  subst h; exact pe_bm pa slot hty hm ho ha hbase hfew hline hs hplain
theorem cInt : CallR X (.type "int") rIntC := call_int1
theorem cAbs : CallR X (.builtin "abs") rAbsC := call_abs
theorem cLen : CallR X (.builtin "len") (rLenC X.K) := call_len_seq
theorem cList : CallR X (.type "list") (rListC X.K) := call_list_of
end
section
variable {K : PySem.W.Frag} {H H0 : Hp} {Q : VK} {i : Int} {d : Option Addr} {G : List (Addr × HO)} {p : Addr} {xs ys : List V} {v : V} {σ : L2.St} {te ta : TE} {t : TA}
theorem s_int (q : Q (.int i) H) : rIntC [.int i] H Q := .inl ⟨i, rfl, q⟩
theorem s_intB {b : Bool} (q : Q (.int (if b then 1 else 0)) H) : rIntC [.bl b] H Q := .inr ⟨b, rfl, q⟩
theorem s_abs (q : Q (.int (if i < 0 then -i else i)) H) : rAbsC [.int i] H Q := ⟨i, rfl, q⟩
theorem s_len (h : SqL K H p xs) (q : Q (.int xs.length) H) : rLenC K [.ref p] H Q := ⟨p, xs, rfl, .inl h, q⟩
theorem s_lenT (h : SqT K H p xs) (q : Q (.int xs.length) H) : rLenC K [.ref p] H Q := ⟨p, xs, rfl, .inr h, q⟩
theorem s_list (k : Kn d H0 G H) (h : SqL K H p xs) (q : ∀ p H', Kn d H0 ((p, .lst xs) :: G) H' → Q (.ref p) H') : rListC K [.ref p] H Q := ⟨p, xs, rfl, .inl h, fun l hl => q l _ (k.new hl)⟩
theorem s_BM {T : String} {r : V → List V → Hp → VK → Prop} (q : te σ H fun x H1 => tyV K T x H1 ∧ t σ H1 fun xs H2 => r x xs H2 Q) : tBM K T r te t σ H Q := q
theorem s_BM0 {T : String} {r : V → List V → Hp → VK → Prop} (q : te σ H fun x H1 => tyV K T x H1 ∧ r x [] H1 Q) : tBM0 K T r te σ H Q := q
theorem n_ty {P : Prop} (h : SqL K H p xs) (q : P) : tyV K "list" (.ref p) H ∧ P := ⟨.inl ⟨rfl, xs, h⟩, q⟩
theorem a_append (k : Kn d H0 G H) (n : Nat) (h : G[n]? = some (p, .lst xs)) (hz : xs.length < 1000000) (q : ∀ H', Kn d H0 (G.set n (p, .lst (xs ++ [v]))) H' → Q .non H') : rAppend (.ref p) [v] H Q :=
  ⟨p, xs, v, rfl, rfl, k.get n h, Nat.lt_of_lt_of_le hz (by decide), q _ (k.put n h)⟩
theorem a_reverse (k : Kn d H0 G H) (n : Nat) (h : G[n]? = some (p, .lst xs)) (q : ∀ H', Kn d H0 (G.set n (p, .lst xs.reverse)) H' → Q .non H') : rReverse (.ref p) [] H Q :=
  ⟨p, xs, rfl, rfl, k.get n h, q _ (k.put n h)⟩
theorem s_cat {q : Addr} (k : Kn d H0 G H) (h1 : H p = some (.lst xs)) (h2 : H q = some (.lst ys)) (hz : xs.length + ys.length ≤ 1000000) (c : ∀ l H', Kn d H0 ((l, .lst (xs ++ ys)) :: G) H' → Q (.ref l) H') : rCat (.ref p) (.ref q) H Q :=
  ⟨p, q, xs, ys, rfl, rfl, h1, h2, Nat.le_trans hz (by decide), fun l hl => c l _ (k.new hl)⟩
theorem s_slL {lo hi : Option Int} (k : Kn d H0 G H) (h : SqL K H p xs) (c : ∀ l H', Kn d H0 ((l, .lst (cutV xs lo hi)) :: G) H' → Q (.ref l) H') : rSlL K (.ref p) lo hi H Q := ⟨p, xs, rfl, h, fun l hl => c l _ (k.new hl)⟩
theorem kn_sq (k : Kn d H0 G H) (n : Nat) (h : G[n]? = some (p, .lst xs)) : SqL K H p xs := .inl (.inl (k.get n h))
theorem kn_tq (k : Kn d H0 G H) (n : Nat) (h : G[n]? = some (p, .tup xs)) : SqT K H p xs := .inl (.inl (k.get n h))
end
section
variable {K : PySem.W.Frag} {H : Hp} {Q : VK} {σ : L2.St} {ta : TA} {tl te tb' : TE} {tb : TS} {g : TG} {D : Ends} {n : Nat} {tt : TT}
def FR (n : Nat) (tb : TS) (D : Ends) (σ : L2.St) (vs : List V) (H1 : Hp) : Prop := ∃ j : Int, vs = [.int j] ∧ -(2 ^ 62) ≤ j ∧ j < 2 ^ 62 ∧ (fun J H1 => ∃ W : Nat → Nat → L2.St → Hp → Prop, (∃ m, W 0 m σ H1) ∧ ∀ i m σ H, W i m σ H →
  (It.stop J i H ∧ D.nx σ H) ∨ (It.go J i H ∧ ∃ N : L2.St → Hp → Prop, (∀ σ' H', N σ' H' → ∃ m', m' < m ∧ W (i + 1) m' σ' H') ∧ ∀ x H', It.yld J i H x H' → gName n x σ H' fun σ2 H2 => tb { D with nx := N, ct := N, bk := D.nx } σ2 H2)) (Itr 0 j.toNat) H1
theorem s_forR (q : ta σ H fun vs H1 => FR n tb D σ vs H1) : tFor (iRng1 ta) (gName n) tb D σ H := q
theorem n_for {j : Int} (h0 : -1000000 ≤ j) (h1 : j ≤ 1000000) (Pv : Nat → L2.St → Hp → Prop) (p0 : Pv 0 σ H) (ps : ∀ i σ H, i < j.toNat → Pv i σ H → tb { D with nx := Pv (i + 1), ct := Pv (i + 1), bk := D.nx } (σ.set n (some (.int i))) H)
    (pd : ∀ σ H, Pv j.toNat σ H → D.nx σ H) : FR n tb D σ [.int j] H := by
  refine ⟨j, rfl, by omega, by omega, for_range (lo := 0) (n := j.toNat) Pv p0 (fun i σ' H' hi p => ?_) pd⟩
  have e : (0 : Int) + (i : Int) = (i : Int) := Int.zero_add _
  rw [e]
  exact ps i σ' H' hi p
def FR2 (n : Nat) (tb : TS) (D : Ends) (σ : L2.St) (vs : List V) (H1 : Hp) : Prop := ∃ i j : Int, vs = [.int i, .int j] ∧ (-(2 ^ 62) ≤ i ∧ i < 2 ^ 62 ∧ -(2 ^ 62) ≤ j ∧ j < 2 ^ 62) ∧ (fun J H1 => ∃ W : Nat → Nat → L2.St → Hp → Prop, (∃ m, W 0 m σ H1) ∧ ∀ i m σ H, W i m σ H →
  (It.stop J i H ∧ D.nx σ H) ∨ (It.go J i H ∧ ∃ N : L2.St → Hp → Prop, (∀ σ' H', N σ' H' → ∃ m', m' < m ∧ W (i + 1) m' σ' H') ∧ ∀ x H', It.yld J i H x H' → gName n x σ H' fun σ2 H2 => tb { D with nx := N, ct := N, bk := D.nx } σ2 H2)) (Itr i (j - i).toNat) H1
theorem s_forR2 (q : ta σ H fun vs H1 => FR2 n tb D σ vs H1) : tFor (iRng2 ta) (gName n) tb D σ H := q
theorem n_for2 {lo j : Int} (h0 : -1000000 ≤ lo) (h0' : lo ≤ 1000000) (h1 : -1000000 ≤ j) (h1' : j ≤ 1000000) (Pv : Nat → L2.St → Hp → Prop) (p0 : Pv 0 σ H) (ps : ∀ i σ H, i < (j - lo).toNat → Pv i σ H → tb { D with nx := Pv (i + 1), ct := Pv (i + 1), bk := D.nx } (σ.set n (some (.int (lo + i)))) H)
    (pd : ∀ σ H, Pv (j - lo).toNat σ H → D.nx σ H) : FR2 n tb D σ [.int lo, .int j] H :=
  ⟨lo, j, rfl, by omega, for_range (lo := lo) (n := (j - lo).toNat) Pv p0 (fun i σ' H' hi p => ps i σ' H' hi p) pd⟩
def FL (K : PySem.W.Frag) (g : TG) (tb : TS) (D : Ends) (σ : L2.St) (x : V) (H1 : Hp) : Prop := ∃ a, x = .ref a ∧ (∃ xs, SqL K H1 a xs) ∧ (fun J H1 => ∃ W : Nat → Nat → L2.St → Hp → Prop, (∃ m, W 0 m σ H1) ∧ ∀ i m σ H, W i m σ H →
  (It.stop J i H ∧ D.nx σ H) ∨ (It.go J i H ∧ ∃ N : L2.St → Hp → Prop, (∀ σ' H', N σ' H' → ∃ m', m' < m ∧ W (i + 1) m' σ' H') ∧ ∀ x H', It.yld J i H x H' → g x σ H' fun σ2 H2 => tb { D with nx := N, ct := N, bk := D.nx } σ2 H2)) (Itl K a) H1
theorem s_forL (q : tl σ H fun x H1 => FL K g tb D σ x H1) : tFor (iList K tl) g tb D σ H := q
theorem n_forL {a : Addr} {xs : List V} (h : SqL K H a xs) (Pv : Nat → L2.St → Hp → Prop) (p0 : Pv 0 σ H) (pl : ∀ i σ H, i ≤ xs.length → Pv i σ H → SqL K H a xs)
    (ps : ∀ i x σ H, xs[i]? = some x → Pv i σ H → g x σ H fun σ2 H2 => tb { D with nx := Pv (i + 1), ct := Pv (i + 1), bk := D.nx } σ2 H2) (pd : ∀ σ H, Pv xs.length σ H → D.nx σ H) : FL K g tb D σ (.ref a) H :=
  ⟨a, rfl, ⟨xs, h⟩, for_list (xs := xs) Pv p0 pl ps pd⟩
def FT (K : PySem.W.Frag) (g : TG) (tb : TS) (D : Ends) (σ : L2.St) (x : V) (H1 : Hp) : Prop := ∃ a, x = .ref a ∧ (∃ xs, SqT K H1 a xs) ∧ (fun J H1 => ∃ W : Nat → Nat → L2.St → Hp → Prop, (∃ m, W 0 m σ H1) ∧ ∀ i m σ H, W i m σ H →
  (It.stop J i H ∧ D.nx σ H) ∨ (It.go J i H ∧ ∃ N : L2.St → Hp → Prop, (∀ σ' H', N σ' H' → ∃ m', m' < m ∧ W (i + 1) m' σ' H') ∧ ∀ x H', It.yld J i H x H' → g x σ H' fun σ2 H2 => tb { D with nx := N, ct := N, bk := D.nx } σ2 H2)) (Itt K a) H1
theorem s_forT (q : tl σ H fun x H1 => FT K g tb D σ x H1) : tFor (iTup K tl) g tb D σ H := q
theorem n_forT {a : Addr} {xs : List V} (h : SqT K H a xs) (Pv : Nat → L2.St → Hp → Prop) (p0 : Pv 0 σ H) (pl : ∀ i σ H, i ≤ xs.length → Pv i σ H → SqT K H a xs)
    (ps : ∀ i x σ H, xs[i]? = some x → Pv i σ H → g x σ H fun σ2 H2 => tb { D with nx := Pv (i + 1), ct := Pv (i + 1), bk := D.nx } σ2 H2) (pd : ∀ σ H, Pv xs.length σ H → D.nx σ H) : FT K g tb D σ (.ref a) H :=
  ⟨a, rfl, ⟨xs, h⟩, for_tup (xs := xs) Pv p0 pl ps pd⟩
theorem s_ifJ {R : V → Hp → Prop} (h : ∀ Q' : VK, (∀ v H', R v H' → Q' v H') → tIf tt te tb' σ H Q') (q : ∀ v H', R v H' → Q v H') : tIf tt te tb' σ H Q := h Q q
end
theorem cmul_b {i : Int} {b : Bool} : CMul i (if b = true then 1 else 0) := .inr (by cases b <;> decide)
section
variable {K : PySem.W.Frag} {H H0 : Hp} {Q : VK} {QS : L2.St → Hp → Prop} {σ : L2.St} {te to tl th : TE} {ta : TA} {tt : TT} {d : Option Addr} {G : List (Addr × HO)} {p q : Addr} {xs ys : List V} {v : V} {n j : Nat} {t : TGs} {g : TG} {us : TGs} {i : Int}
theorem wipe1 {σ : L2.St} {j : Nat} (x : Option V) : wipe ((wipe σ [j]).set j x) [j] = wipe σ [j] := by
  show ((σ.set j none).set j x).set j none = σ.set j none
  rw [List.set_set, List.set_set]
/-- [e for x in range(n) if t] -/
def CR (j : Nat) (tt : TT) (te : TE) (σ : L2.St) (Q : VK) (vs : List V) (H1 : Hp) : Prop := ∃ n : Int, vs = [.int n] ∧ -(2 ^ 62) ≤ n ∧ n < 2 ^ 62 ∧ (fun J H1 => ∀ D, H1 D = none → ∃ W : Nat → Nat → Hp → Prop, (∃ m, W 0 m (upd H1 D (.lst []))) ∧ ∀ i m H, W i m H →
  (It.stop J i H ∧ Q (.ref D) H) ∨ (It.go J i H ∧ ∃ Nx : Hp → Prop, (∀ H', Nx H' → ∃ m', m' < m ∧ W (i + 1) m' H') ∧ ∀ x H', It.yld J i H x H' → gName j x (wipe σ [j]) H' fun σ2 H2 => wipe σ2 [j] = wipe σ [j] ∧ tt σ2 H2 fun b H3 =>
    if b = true then te σ2 H3 fun y H4 => ∃ acc, H4 D = some (.lst acc) ∧ acc.length < sizeLine ∧ Nx (upd H4 D (.lst (acc ++ [y]))) else Nx H3)) (Itr 0 n.toNat) H1
theorem s_lcR (q : ta σ H fun vs H1 => CR j tt te σ Q vs H1) : tLc (iRng1 ta) (gName j) tt te [j] σ H Q := q
/-- no test: the list so far, and what is known of it -/
theorem n_lcR {n : Int} (h0 : 0 ≤ n) (h1 : n ≤ 100000) (k : Kn d H0 G H) (R : Nat → List V → Prop) (r0 : R 0 [])
    (rs : ∀ i acc D H2, i < n.toNat → R i acc → Kn d H0 ((D, .lst acc) :: G) H2 → ∀ Q' : VK, (∀ y H3, R (i + 1) (acc ++ [y]) → Kn d H0 ((D, .lst acc) :: G) H3 → Q' y H3) → te ((wipe σ [j]).set j (some (.int i))) H2 Q')
    (rl : ∀ i acc, R i acc → acc.length ≤ i) (rd : ∀ acc D H2, R n.toNat acc → Kn d H0 ((D, .lst acc) :: G) H2 → Q (.ref D) H2) : CR j tYes te σ Q [.int n] H := by
  refine ⟨n, rfl, by omega, by omega, fun D hD => ?_⟩
  refine lc_range (lo := 0) (n := n.toNat) (fun i H2 => ∃ acc, R i acc ∧ Kn d H0 ((D, .lst acc) :: G) H2) ⟨[], r0, k.new hD⟩ (fun i H2 hi ⟨acc, ra, ka⟩ => ?_) (fun H2 ⟨acc, ra, ka⟩ => rd acc D H2 ra ka)
  have e0 : (0 : Int) + (i : Int) = (i : Int) := Int.zero_add _
  rw [e0]
  refine ⟨wipe1 _, ?_⟩
  show te ((wipe σ [j]).set j (some (.int i))) H2 _
  refine rs i acc D H2 hi ra ka _ fun y H3 r1 k1 => ?_
  exact ⟨acc, k1.get 0 rfl, Nat.lt_of_le_of_lt (rl i acc ra) (Nat.lt_of_lt_of_le (show i < 100001 by omega) (by decide)), _, r1, k1.put 0 rfl⟩
/-- [e for x in xs if t] -/
def CL (K : PySem.W.Frag) (g : TG) (vs : List Nat) (tt : TT) (te : TE) (σ : L2.St) (Q : VK) (x : V) (H1 : Hp) : Prop := ∃ a, x = .ref a ∧ (∃ xs, SqL K H1 a xs) ∧ (fun J H1 => ∀ D, H1 D = none → ∃ W : Nat → Nat → Hp → Prop, (∃ m, W 0 m (upd H1 D (.lst []))) ∧ ∀ i m H, W i m H →
  (It.stop J i H ∧ Q (.ref D) H) ∨ (It.go J i H ∧ ∃ Nx : Hp → Prop, (∀ H', Nx H' → ∃ m', m' < m ∧ W (i + 1) m' H') ∧ ∀ x H', It.yld J i H x H' → g x (wipe σ vs) H' fun σ2 H2 => wipe σ2 vs = wipe σ vs ∧ tt σ2 H2 fun b H3 =>
    if b = true then te σ2 H3 fun y H4 => ∃ acc, H4 D = some (.lst acc) ∧ acc.length < sizeLine ∧ Nx (upd H4 D (.lst (acc ++ [y]))) else Nx H3)) (Itl K a) H1
theorem s_lcL {vs : List Nat} (q : te σ H fun x H1 => CL K g vs tt tl σ Q x H1) : tLc (iList K te) g tt tl vs σ H Q := q
/-- over a list, with a test or without; R: what is known of the list so far -/
theorem n_lcL {a : Addr} {xs : List V} (hx : SqL K H a xs) (h1 : xs.length ≤ 100000) (k : Kn d H0 G H) (hst : ∀ D acc H2, Kn d H0 ((D, .lst acc) :: G) H2 → SqL K H2 a xs) (R : Nat → List V → Prop) (r0 : R 0 [])
    (rs : ∀ i x acc D H2, xs[i]? = some x → R i acc → Kn d H0 ((D, .lst acc) :: G) H2 → ∀ Q' : Bool → Hp → Prop, (∀ b H3, Kn d H0 ((D, .lst acc) :: G) H3 → (b = false → R (i + 1) acc) →
      (b = true → ∀ Q'' : VK, (∀ y H4, R (i + 1) (acc ++ [y]) → Kn d H0 ((D, .lst acc) :: G) H4 → Q'' y H4) → te ((wipe σ [j]).set j (some x)) H3 Q'') → Q' b H3) → tt ((wipe σ [j]).set j (some x)) H2 Q')
    (rl : ∀ i acc, R i acc → acc.length ≤ i) (rd : ∀ acc D H2, R xs.length acc → Kn d H0 ((D, .lst acc) :: G) H2 → Q (.ref D) H2) : CL K (gName j) [j] tt te σ Q (.ref a) H := by
  refine ⟨a, rfl, ⟨xs, hx⟩, fun D hD => ?_⟩
  refine lc_list (xs := xs) (fun i H2 => ∃ acc, R i acc ∧ Kn d H0 ((D, .lst acc) :: G) H2) ⟨[], r0, k.new hD⟩ (fun i H2 hi ⟨acc, ra, ka⟩ => hst D acc H2 ka) (fun i x H2 hi ⟨acc, ra, ka⟩ => ?_) (fun H2 ⟨acc, ra, ka⟩ => rd acc D H2 ra ka)
  have hi' : i < xs.length := (List.getElem?_eq_some_iff.mp hi).1
  refine ⟨wipe1 _, ?_⟩
  show tt ((wipe σ [j]).set j (some x)) H2 _
  refine rs i x acc D H2 hi ra ka _ fun b H3 k3 hf ht => ?_
  cases b with
  | false => exact iteF ⟨acc, hf rfl, k3⟩
  | true =>
    refine iteT (ht rfl _ fun y H4 r1 k1 => ?_)
    exact ⟨acc, k1.get 0 rfl, Nat.lt_of_le_of_lt (rl i acc ra) (Nat.lt_of_lt_of_le (show i < 100001 by omega) (by decide)), _, r1, k1.put 0 rfl⟩
theorem s_gTup (h : SqT K H p xs) (hl : xs.length = n) (q : t xs σ H QS) : gTup K n t (.ref p) σ H QS := ⟨p, xs, rfl, h, hl, q⟩
theorem s_gLst (h : SqL K H p xs) (hl : xs.length = n) (q : t xs σ H QS) : gLst K n t (.ref p) σ H QS := ⟨p, xs, rfl, h, hl, q⟩
theorem s_gCons (q : g v σ H fun σ' H' => us xs σ' H' QS) : gCons g us (v :: xs) σ H QS := ⟨v, xs, rfl, q⟩
theorem s_gNil (q : QS σ H) : gNil [] σ H QS := ⟨rfl, q⟩
theorem s_gSub {ts : TSet} (q : to σ H fun o H1 => tl σ H1 fun i H2 => ts o i v H2 fun H3 => QS σ H3) : gSub to tl ts v σ H QS := q
theorem a_set {QH : Hp → Prop} (k : Kn d H0 G H) (n : Nat) (h : G[n]? = some (p, .lst xs)) (hi : ixN xs.length i = some j) (q : ∀ H', Kn d H0 (G.set n (p, .lst (xs.set j v))) H' → QH H') : rSetL (.ref p) (.int i) v H QH :=
  ⟨p, xs, i, j, rfl, rfl, k.get n h, hi, q _ (k.put n h)⟩
theorem ixN_nat {n j : Nat} (h : j < n) : ixN n (j : Int) = some j := by
  unfold ixN
  rw [if_pos (Int.natCast_nonneg j), if_pos (by omega)]; rfl
theorem ixN_of {n j : Nat} {i : Int} (e : i = (j : Int)) (h : j < n) : ixN n i = some j := by rw [e]; exact ixN_nat h
theorem s_par {i j : Nat} {D : Ends} (q : ta σ H fun vs H1 => ∃ v w, vs = [v, w] ∧ D.nx ((σ.set i (some v)).set j (some w)) H1) : tPar i j ta D σ H := q
theorem s_vw {P : V → V → Prop} {a b : V} (q : P a b) : ∃ v w, [a, b] = [v, w] ∧ P v w := ⟨a, b, rfl, q⟩
/-- a slice of a list is replaced by another list -/
def gSlc (to tl th : TE) : TG := fun v σ H Q => to σ H fun o H1 => tl σ H1 fun a H2 => th σ H2 fun c H3 => ∃ l b xs ys i j, o = .ref l ∧ v = .ref b ∧ a = .int i ∧ c = .int j ∧
  H3 l = some (.lst xs) ∧ H3 b = some (.lst ys) ∧ l ≠ b ∧ 0 ≤ i ∧ i ≤ j ∧ j ≤ xs.length ∧ xs.length + ys.length ≤ sizeLine ∧ Q σ (upd H3 l (.lst (xs.take i.toNat ++ ys ++ xs.drop j.toNat)))
theorem pg_slc {X : Cx} {o lo hi : Expr} {to tl th : TE} {pos p2 : Pos} (ho : PE X o to) (hl : PE X lo tl) (hh : PE X hi th)
    (ha : ∀ v, assign (.Subscript o (.Slice (some lo) (some hi) none p2) pos) X.env v = (do
      let ov ← holding [v] (eval o X.env)
      let iv ← holding [v, ov] (eval (.Slice (some lo) (some hi) none p2) X.env)
      standAt pos
      holding [v, ov, iv] (setItem ov iv v)
      release [iv, v, ov] []) := by intro _; rfl) : PG X (.Subscript o (.Slice (some lo) (some hi) none p2) pos) (gSlc to tl th) := by
  refine ⟨fun pins s σ H v u Q I r h => ?_⟩
  rw [ha]
  refine wpAny_bind (wpAny_holding (thn (ho.run pins s σ H _ I h) fun ov s1 ⟨x, H1, I1, r1, q1⟩ => ?_))
  refine wpAny_bind (wpAny_holding (wpAny_Slice ?_))
  rw [evalPart_some]
  refine thn (hl.run pins s1 σ H1 _ I1 q1) fun vl s2 ⟨a, H2, I2, ra, q2⟩ => ?_
  rw [evalPart_some]
  refine thn (hh.run pins s2 σ H2 _ I2 q2) fun vu s3 ⟨c, H3, I3, rc, q3⟩ => ?_
  rw [evalPart_none]
  refine wpAny_pure ?_
  obtain ⟨l, b, xs, ys, i, j, rfl, rfl, rfl, rfl, hH, hB, hne, h0, hij, hj, hz, q⟩ := q3
  cases r1
  cases r
  have I4 : Inv X pins σ H3 { s3 with heap := s3.heap.push { cls := .type "slice", data := .fields #[vl, vu, .none] } } := I3.kept (t' := s3.toks) fun b ob q => Heap.get?_push_of_some _ q
  refine wpAny_bind (wpAny_standAt (wpAny_bind (wpAny_holding (set_slice I4 hH hB hne (Heap.IsSliceOf.new ..) ra rc h0 hij hj hz fun s4 I5 => ?_))))
  exact wpAny_release ⟨σ, _, I5, q⟩
theorem s_slc {QS : L2.St → Hp → Prop} (q : to σ H fun o H1 => tl σ H1 fun a H2 => th σ H2 fun c H3 => ∃ l b xs ys i j, o = .ref l ∧ v = .ref b ∧ a = .int i ∧ c = .int j ∧
  H3 l = some (.lst xs) ∧ H3 b = some (.lst ys) ∧ l ≠ b ∧ 0 ≤ i ∧ i ≤ j ∧ j ≤ xs.length ∧ xs.length + ys.length ≤ sizeLine ∧ QS σ (upd H3 l (.lst (xs.take i.toNat ++ ys ++ xs.drop j.toNat)))) : gSlc to tl th v σ H QS := q
theorem s_ne_same {x y : V} (e : PyData) (hx : Dp K H x e) (hy : Dp K H y e) (sd : SeqAt.shaped e = true) (q : Q (.bl false) H) : rNeD K x y H Q :=
  ⟨e, e, hx, hy, sd, sd, by rw [PySem.SeqAt.eqv_refl e (SeqAt.canLay_of_shaped sd)]; exact q⟩
theorem s_eq_same {x y : V} (e : PyData) (hx : Dp K H x e) (hy : Dp K H y e) (sd : SeqAt.shaped e = true) (q : Q (.bl true) H) : rEqD K x y H Q :=
  ⟨e, e, hx, hy, sd, sd, by rw [PySem.SeqAt.eqv_refl e (SeqAt.canLay_of_shaped sd)]; exact q⟩
theorem dp_t2 {a b : Int} (h : SqT K H p [.int a, .int b]) : Dp K H (.ref p) (.tuple [.int a, .int b]) := .tup h (.cons (.int a) (.cons (.int b) .nil))
theorem s_sum {ns : List Int} (h : SqL K H p (ns.map V.int)) (q : Q (.int ns.sum) H) : rSum K [.ref p] H Q := ⟨p, ns, rfl, h, q⟩
theorem s_rep {k : Int} (kn : Kn d H0 G H) (h : H p = some (.lst xs)) (h0 : 0 ≤ k) (h1 : k ≤ 100000) (hz : xs.length ≤ 10) (c : ∀ l H', Kn d H0 ((l, .lst (List.replicate k.toNat xs).flatten) :: G) H' → Q (.ref l) H') : rRep (.ref p) (.int k) H Q :=
  ⟨p, k, xs, rfl, rfl, h, by omega, by omega, by
    have : xs.length * k.toNat ≤ 10 * 100000 := Nat.mul_le_mul hz (by omega)
    exact Nat.le_trans this (by decide), fun l hl => c l _ (kn.new hl)⟩
end
section
variable {X : Cx}
theorem pe_lcK {elt tg iter : Expr} {ifs : List Expr} {scope : Scope} {own : List (Str × Nat)} {pos : Pos} {wi : TI} {g : TG} {tt : TT} {te : TE} {vs : List Nat} (hv : own.map (·.2) = vs) (hc : X.calm = true) (hN : X.N.Nodup) (hi : PI X tg iter wi) (ok : BlkOk X.N X.env.scope scope own)
    (hg : ∀ (s : Shared) (H : Hp) (C : Addr) (cl : List (Str × Addr)) (fp : List Addr), PG (X.blk s H scope (compEnvC scope cl C X.env) fp) tg g) (ht : ∀ (s : Shared) (H : Hp) (C : Addr) (cl : List (Str × Addr)) (fp : List Addr), PTs (X.blk s H scope (compEnvC scope cl C X.env) fp) ifs tt)
    (he : ∀ (s : Shared) (H : Hp) (C : Addr) (cl : List (Str × Addr)) (fp : List Addr), PE (X.blk s H scope (compEnvC scope cl C X.env) fp) elt te) (hs : ∀ x, foldedSetIterable iter X.env x = pure x := by intro _; rfl) :
    PE X (.ListComp elt [⟨tg, iter, ifs, 0⟩] scope pos) (tLc wi g tt te vs) := by
  subst hv; exact pe_lc hc hN hi ok hg ht he hs
theorem ps_setLcK {i : Nat} {y : Str} {py : Pos} {elt tg iter : Expr} {ifs : List Expr} {scope : Scope} {own : List (Str × Nat)} {pos spos : Pos} {wi : TI} {g : TG} {tt : TT} {te : TE} {vs : List Nat} (hv : own.map (·.2) = vs) (hc : X.calm = true) (hN : X.N.Nodup) (hy : X.N[i]? = some y) (hyl : X.env.scope.names.lookup y = some .local)
    (hsw : swapsWith (.ListComp elt [⟨tg, iter, ifs, 0⟩] scope pos) (some (.Name y py)) spos.line X.env = pure true) (hi : PI X tg iter wi) (ok : BlkOk X.N X.env.scope scope own)
    (hg : ∀ (s : Shared) (H : Hp) (C : Addr) (cl : List (Str × Addr)) (fp : List Addr), PG (X.blk s H scope (compEnvC scope cl C X.env) fp) tg g) (ht : ∀ (s : Shared) (H : Hp) (C : Addr) (cl : List (Str × Addr)) (fp : List Addr), PTs (X.blk s H scope (compEnvC scope cl C X.env) fp) ifs tt)
    (he : ∀ (s : Shared) (H : Hp) (C : Addr) (cl : List (Str × Addr)) (fp : List Addr), PE (X.blk s H scope (compEnvC scope cl C X.env) fp) elt te) (hs : ∀ x, foldedSetIterable iter X.env x = pure x := by intro _; rfl) :
    PS X (.Assign [.Name y py] (.ListComp elt [⟨tg, iter, ifs, 0⟩] scope pos) spos) (tAsg (tLc wi g tt te vs) (gName i)) := by
  subst hv; exact ps_setLc hc hN hy hyl hsw hi ok hg ht he hs
end
section
variable {K : PySem.W.Frag} {H H0 : Hp} {QS : L2.St → Hp → Prop} {σ : L2.St} {d : Option Addr} {G : List (Addr × HO)} {l b : Addr} {xs ys : List V} {o u : HO} {i j : Nat} {x y : Int}
theorem Kn.ne (k : Kn d H0 G H) (i j : Nat) (h : G[i]? = some (l, o)) (h' : G[j]? = some (b, u)) (ij : i ≠ j) : l ≠ b := fun z => ij (nd_ix k.nd (x := l) (by rw [List.getElem?_map, h]; rfl) (by rw [List.getElem?_map, h', z]; rfl))
theorem Kn.sub (k : Kn d H0 G H) {G' : List (Addr × HO)} (s : G'.Sublist G) : Kn d H0 G' H :=
  ⟨k.keep, k.dk, k.dk0, k.nd.sublist (s.map _), fun e he => k.nw e (s.subset he), fun e he => k.at_ e (s.subset he)⟩
theorem a_slc (k : Kn d H0 G H) (n m : Nat) (h : G[n]? = some (l, .lst xs)) (h' : G[m]? = some (b, .lst ys)) (nm : n ≠ m) (ex : x = (i : Int)) (ey : y = (j : Int)) (hij : i ≤ j) (hj : j ≤ xs.length) (hz : xs.length + ys.length ≤ 1000000)
    (q : ∀ H', Kn d H0 (G.set n (l, .lst (xs.take i ++ ys ++ xs.drop j))) H' → QS σ H') :
    ∃ l' b' xs' ys' i' j', V.ref l = .ref l' ∧ V.ref b = .ref b' ∧ V.int x = .int i' ∧ V.int y = .int j' ∧ H l' = some (.lst xs') ∧ H b' = some (.lst ys') ∧ l' ≠ b' ∧ 0 ≤ i' ∧ i' ≤ j' ∧ j' ≤ xs'.length ∧ xs'.length + ys'.length ≤ sizeLine ∧
      QS σ (upd H l' (.lst (xs'.take i'.toNat ++ ys' ++ xs'.drop j'.toNat))) := by
  subst ex; subst ey
  exact ⟨l, b, xs, ys, i, j, rfl, rfl, rfl, rfl, k.get n h, k.get m h', k.ne n m h h' nm, by omega, by omega, by omega, Nat.le_trans hz (by decide), q _ (k.put n h)⟩
end
/-! ### order and equality of lists of ints -/
def llt : List Int → List Int → Bool
  | x :: xs, y :: ys => if x = y then llt xs ys else decide (x < y)
  | _, _ => false
def rLtL (K : PySem.W.Frag) : R2 := fun x y H Q => ∃ (a b : Addr) (ns ms : List Int), x = .ref a ∧ y = .ref b ∧ SqL K H a (ns.map V.int) ∧ SqL K H b (ms.map V.int) ∧ ns.length = ms.length ∧ Q (.bl (llt ns ms)) H
theorem firstLt_llt : ∀ (ns ms : List Int) (k : Nat), ns.length = ms.length → ∀ (e r : Nat → Bool), (∀ j, j < ns.length → e (k + j) = decide (ns.getD j 0 = ms.getD j 0)) → (∀ j, j < ns.length → r (k + j) = decide (ns.getD j 0 < ms.getD j 0)) →
    SeqAt.firstLt e r false ((List.range ns.length).map (k + ·)) = llt ns ms
  | [], [], _, _, _, _, _, _ => rfl
  | x :: xs, y :: ys, k, hl, e, r, he, hr => by
    have hl' : xs.length = ys.length := by simpa using hl
    rw [List.length_cons, List.range_succ_eq_map, List.map_cons, List.map_map]
    have e0 := he 0 (by simp)
    have r0 := hr 0 (by simp)
    simp only [Nat.add_zero, List.getD_cons_zero] at e0 r0
    show (if e (k + 0) = true then _ else r (k + 0)) = if x = y then llt xs ys else decide (x < y)
    rw [Nat.add_zero, e0, r0]
    by_cases h : x = y
    · rw [if_pos (decide_eq_true h), if_pos h]
      have ih := firstLt_llt xs ys (k + 1) hl' e r (fun j hj => by have := he (j + 1) (by simpa using hj); rw [show k + 1 + j = k + (j + 1) by omega, this]; simp) (fun j hj => by have := hr (j + 1) (by simpa using hj); rw [show k + 1 + j = k + (j + 1) by omega, this]; simp)
      rw [← ih]
      congr 1
      refine List.map_congr_left fun j _ => ?_
      show k + (j + 1) = k + 1 + j
      omega
    · rw [if_neg (by simp [h]), if_neg h]
section
variable {X : Cx}
theorem kLtL {K : PySem.W.Frag} (hu : X.A.units < cLine) (h : X.K = K := by rfl) : OpR X (compareOp .Lt) (rLtL K) := by
  subst h
  intro pins s σ H x y v u Q I rx ry h
  obtain ⟨a, b, ns, ms, rfl, rfl, ha, hb, hl, q⟩ := h
  cases rx
  cases ry
  obtain ⟨its, r1, p1, _⟩ := I.list ha
  obtain ⟨its2, r2, p2, _⟩ := I.list hb
  have i1 : IntsAre its ns := Vals.ints r1
  have i2 : IntsAre its2 ms := Vals.ints r2
  have e1 : its.toArray.size = ns.length := by rw [List.size_toArray]; exact i1.length
  have e2 : its2.toArray.size = ms.length := by rw [List.size_toArray]; exact i2.length
  have at1 : ∀ j (h1 : j < its.toArray.size), ∃ t, its.toArray[j] = .int (ns.getD j 0) t := fun j h1 => PyProof.Rows.IntsAre.int_at i1 _ _ (by simp at h1; simp [h1])
  have at2 : ∀ j (h1 : j < its2.toArray.size), ∃ t, its2.toArray[j] = .int (ms.getD j 0) t := fun j h1 => PyProof.Rows.IntsAre.int_at i2 _ _ (by simp at h1; simp [h1])
  have R := SeqAt.RcLt.lists (A := X.A) (s := s) (e := fun j => decide (ns.getD j 0 = ms.getD j 0)) (r := fun j => decide (ns.getD j 0 < ms.getD j 0)) p1.isList p2.isList hu (fun j h1 h2 => by
    obtain ⟨t, et⟩ := at1 j h1
    obtain ⟨t', et'⟩ := at2 j h2
    rw [et, et']
    have z : (ns.getD j 0 == ms.getD j 0) = decide (ns.getD j 0 = ms.getD j 0) := by
      by_cases q : ns.getD j 0 = ms.getD j 0
      · rw [decide_eq_true q]; exact beq_iff_eq.mpr q
      · rw [decide_eq_false q]; exact beq_eq_false_iff_ne.mpr q
    rw [← z]
    exact SeqAt.EqAt.int_int _ _ _ _) (fun j h1 h2 _ => by
    obtain ⟨t, et⟩ := at1 j h1
    obtain ⟨t', et'⟩ := at2 j h2
    rw [et, et']
    exact fun prog w E Q h => PyProof.Rows.lt_int h)
  rw [e1, e2, hl, Nat.min_self, decide_eq_false (Nat.lt_irrefl _)] at R
  have hf := firstLt_llt ns ms 0 hl _ _ (fun j _ => by rw [Nat.zero_add]) (fun j _ => by rw [Nat.zero_add])
  rw [hl, show (List.range ms.length).map (0 + ·) = List.range ms.length by simp] at hf
  rw [hf] at R
  exact R X.prog X.w X.xe (EP X pins σ Q) ⟨.bl _, H, I, rfl, q⟩
end
theorem canLay_ints : ∀ ns : List Int, PyData.canLayAll0 (ns.map PyData.int) = true
  | [] => rfl
  | n :: ns => by
    show (true && PyData.canLayAll0 (ns.map PyData.int)) = true
    rw [canLay_ints ns]; rfl
theorem eqvAll_ints : ∀ ns ms : List Int, PyData.eqvAll (ns.map PyData.int) (ms.map PyData.int) = decide (ns = ms)
  | [], [] => rfl
  | [], m :: ms => by simp [PyData.eqvAll]
  | n :: ns, [] => by simp [PyData.eqvAll]
  | n :: ns, m :: ms => by
    show ((n == m) && PyData.eqvAll (ns.map PyData.int) (ms.map PyData.int)) = _
    rw [eqvAll_ints ns ms]
    by_cases h : n = m <;> by_cases h' : ns = ms <;> simp [h, h']
section
variable {K : PySem.W.Frag} {H H0 : Hp} {Q : VK} {QB : Bool → Hp → Prop} {σ : L2.St} {te ta tb tc : TE} {d : Option Addr} {G : List (Addr × HO)} {p q : Addr} {xs : List V} {ns ms : List Int} {r r' : R2}
theorem dp_ints : ∀ {ns : List Int}, DpAll K H (ns.map V.int) (ns.map PyData.int)
  | [] => .nil
  | n :: _ => .cons (.int n) dp_ints
theorem dp_il (h : SqL K H p (ns.map V.int)) : Dp K H (.ref p) (.list (ns.map PyData.int)) := .lst h dp_ints
theorem shaped_ints : SeqAt.shaped (.list (ns.map PyData.int)) = true := by
  have h : PyData.depthAll (ns.map PyData.int) ≤ 1 := by
    induction ns with
    | nil => exact Nat.zero_le _
    | cons n ns ih => exact Nat.max_le.mpr ⟨by simp only [PyData.depth]; omega, ih⟩
  unfold SeqAt.shaped
  rw [Bool.and_eq_true]
  refine ⟨canLay_ints ns, decide_eq_true ?_⟩
  show PyData.depthAll _ + 1 ≤ 64
  omega
theorem s_neL (h1 : SqL K H p (ns.map V.int)) (h2 : SqL K H q (ms.map V.int)) (c : Q (.bl (!decide (ns = ms))) H) : rNeD K (.ref p) (.ref q) H Q :=
  ⟨_, _, dp_il h1, dp_il h2, shaped_ints, shaped_ints, by rw [show PyData.eqv (.list (ns.map PyData.int)) (.list (ms.map PyData.int)) = decide (ns = ms) from eqvAll_ints ns ms]; exact c⟩
theorem s_eqL (h1 : SqL K H p (ns.map V.int)) (h2 : SqL K H q (ms.map V.int)) (c : Q (.bl (decide (ns = ms))) H) : rEqD K (.ref p) (.ref q) H Q :=
  ⟨_, _, dp_il h1, dp_il h2, shaped_ints, shaped_ints, by rw [show PyData.eqv (.list (ns.map PyData.int)) (.list (ms.map PyData.int)) = decide (ns = ms) from eqvAll_ints ns ms]; exact c⟩
theorem s_eqB {a b : Bool} (c : Q (.bl (decide (a = b))) H) : rEq (.bl a) (.bl b) H Q := ⟨rfl, by rw [show decide (V.bl a = V.bl b) = decide (a = b) by simp]; exact c⟩
theorem s_neB {a b : Bool} (c : Q (.bl (!decide (a = b))) H) : rNe (.bl a) (.bl b) H Q := ⟨rfl, by rw [show decide (V.bl a = V.bl b) = decide (a = b) by simp]; exact c⟩
theorem s_eqS {a b : Str} (c : Q (.bl (decide (a = b))) H) : rEq (.str a) (.str b) H Q := ⟨rfl, by rw [show decide (V.str a = V.str b) = decide (a = b) by simp]; exact c⟩
theorem s_neS {a b : Str} (c : Q (.bl (!decide (a = b))) H) : rNe (.str a) (.str b) H Q := ⟨rfl, by rw [show decide (V.str a = V.str b) = decide (a = b) by simp]; exact c⟩
theorem s_chain (c : ta σ H fun x H1 => tb σ H1 fun y H2 => r x y H2 fun z H3 => ∃ k, z = .bl k ∧ (if k = true then tc σ H3 fun w' H4 => r' y w' H4 Q else Q (.bl false) H3)) : tChain r r' ta tb tc σ H Q := c
def rRevV (K : PySem.W.Frag) (x : V) (H : Hp) (Q : VK) : Prop := ∃ a xs, x = .ref a ∧ SqL K H a xs ∧ ∀ p, H p = none → Q (.ref p) (upd H p (.lst xs.reverse))
theorem s_rev (c : te σ H fun x H1 => rRevV K x H1 Q) : tRevL K te σ H Q := c
theorem n_rev (k : Kn d H0 G H) (h : SqL K H p xs) (c : ∀ l H', Kn d H0 ((l, .lst xs.reverse) :: G) H' → Q (.ref l) H') : rRevV K (.ref p) H Q := ⟨p, xs, rfl, h, fun l hl => c l _ (k.new hl)⟩
theorem s_kd {w : World} {z : Str} {v : V} (h : KDct K w p z v) (c : Q v H) : rIxD K w (.ref p) (.str z) H Q := ⟨p, z, v, rfl, rfl, h, c⟩
theorem s_ltL (h1 : SqL K H p (ns.map V.int)) (h2 : SqL K H q (ms.map V.int)) (hl : ns.length = ms.length) (c : Q (.bl (llt ns ms)) H) : rLtL K (.ref p) (.ref q) H Q := ⟨p, q, ns, ms, rfl, rfl, h1, h2, hl, c⟩
end
section
variable {H : Hp} {σ : L2.St} {tt : TT} {t u : TS} {D : Ends} {R : Hp → Prop}
/-- a test that never holds; what is known after it -/
theorem s_ifF (R : Hp → Prop) (h : ∀ QB : Bool → Hp → Prop, (∀ H', R H' → QB false H') → tt σ H QB) (q : ∀ H', R H' → u D σ H') : tIfS tt t u D σ H := h _ (fun H' r => iteF (q H' r))
end
theorem small_len {n m : Nat} (h : Nat.ble n m = true) : n ≤ m := Nat.le_of_ble_eq_true h

end Tm

namespace Tm
open PySem PySem.Spec PyProof.Rows L2
/-! ### the steps as one word -/
/-- an object of the body's own: H p = some _ | a list | a tuple -/
local macro_rules | `(tactic| walk_at "own") => `(tactic| ((rename Kn _ _ _ _ => kk); first
  | exact kk.get 0 rfl | exact kk.get 1 rfl | exact kk.get 2 rfl | exact kk.get 3 rfl | exact kk.get 4 rfl | exact kk.get 5 rfl | exact kk.get 6 rfl | exact kk.get 7 rfl | exact kk.get 8 rfl | exact kk.get 9 rfl | exact kk.get 10 rfl | exact kk.get 11 rfl | exact kk.get 12 rfl | exact kk.get 13 rfl | exact kk.get 14 rfl | exact kk.get 15 rfl | exact kk.get 16 rfl | exact kk.get 17 rfl | exact kk.get 18 rfl | exact kk.get 19 rfl | exact kk.get 20 rfl | exact kk.get 21 rfl | exact kk.get 22 rfl | exact kk.get 23 rfl))
local macro_rules | `(tactic| walk_at "sq") => `(tactic| first | assumption | ((rename Kn _ _ _ _ => kk); first
  | exact kn_sq kk 0 rfl | exact kn_sq kk 1 rfl | exact kn_sq kk 2 rfl | exact kn_sq kk 3 rfl | exact kn_sq kk 4 rfl | exact kn_sq kk 5 rfl | exact kn_sq kk 6 rfl | exact kn_sq kk 7 rfl | exact kn_sq kk 8 rfl | exact kn_sq kk 9 rfl | exact kn_sq kk 10 rfl | exact kn_sq kk 11 rfl | exact kn_sq kk 12 rfl | exact kn_sq kk 13 rfl | exact kn_sq kk 14 rfl | exact kn_sq kk 15 rfl | exact kn_sq kk 16 rfl | exact kn_sq kk 17 rfl | exact kn_sq kk 18 rfl | exact kn_sq kk 19 rfl | exact kn_sq kk 20 rfl | exact kn_sq kk 21 rfl | exact kn_sq kk 22 rfl | exact kn_sq kk 23 rfl | exact kk.sq (by assumption) (by first | (intro z; cases z; done) | assumption)))
local macro_rules | `(tactic| walk_at "tq") => `(tactic| first | assumption | ((rename Kn _ _ _ _ => kk); first
  | exact kn_tq kk 0 rfl | exact kn_tq kk 1 rfl | exact kn_tq kk 2 rfl | exact kn_tq kk 3 rfl | exact kn_tq kk 4 rfl | exact kn_tq kk 5 rfl | exact kn_tq kk 6 rfl | exact kn_tq kk 7 rfl | exact kn_tq kk 8 rfl | exact kn_tq kk 9 rfl | exact kn_tq kk 10 rfl | exact kn_tq kk 11 rfl | exact kn_tq kk 12 rfl | exact kn_tq kk 13 rfl | exact kn_tq kk 14 rfl | exact kn_tq kk 15 rfl | exact kn_tq kk 16 rfl | exact kn_tq kk 17 rfl | exact kn_tq kk 18 rfl | exact kn_tq kk 19 rfl | exact kn_tq kk 20 rfl | exact kn_tq kk 21 rfl | exact kn_tq kk 22 rfl | exact kn_tq kk 23 rfl))
local macro_rules | `(tactic| walk_at "go") => `(tactic| repeat (walk_at "go1"))
local macro_rules | `(tactic| walk_at "go1") => `(tactic| (first
  | ((with_reducible refine s_seq ?_); (try walk_at "nz"))
  | with_reducible refine s_asg ?_
  | with_reducible refine s_name ?_
  | ((with_reducible refine' s_var ?gA ?_); (case gA => exact rfl))
  | with_reducible refine s_c ?_
  | with_reducible refine s_op ?_
  | with_reducible refine s_I0 ?_
  | ((with_reducible refine' s_I ?gA ?_); (case gA => first | exact cmul_b | (show (0 : Int) < _; decide) | exact ⟨by decide, by decide⟩ | exact ⟨by decide, by decide, by decide⟩ | exact .inr ⟨by decide, by decide⟩ | exact .inl ⟨by decide, by decide⟩ | (show (0 : Int) < _; omega) | assumption))
  | with_reducible refine s_un ?_
  | with_reducible refine s_U ?_
  | with_reducible refine s_eqI ?_
  | with_reducible refine s_neI ?_
  | with_reducible refine s_eqB ?_
  | with_reducible refine s_neB ?_
  | with_reducible refine s_eqS ?_
  | with_reducible refine s_neS ?_
  | with_reducible refine s_chain ?_
  | with_reducible refine s_rev ?_
  | ((with_reducible refine' s_neL ?gA ?gB ?_); (case gA => walk_at "sq"); (case gB => walk_at "sq"))
  | ((with_reducible refine' s_eqL ?gA ?gB ?_); (case gA => walk_at "sq"); (case gB => walk_at "sq"))
  | ((rename Kn _ _ _ _ => kk); (with_reducible refine' n_rev kk ?gA ?_); (case gA => walk_at "sq"); clear kk; intro _ _ kk)
  | with_reducible refine s_test ?_
  | with_reducible refine s_B ?_
  | with_reducible refine s_bl ?_
  | with_reducible refine s_isI ?_
  | with_reducible refine s_ret ?_
  | with_reducible refine s_drop ?_
  | with_reducible refine s_next ?_
  | with_reducible refine s_ifS ?_
  | with_reducible refine s_and ?_
  | with_reducible refine s_or ?_
  | with_reducible refine s_not ?_
  | with_reducible refine s_andV ?_
  | with_reducible refine s_orV ?_
  | ((with_reducible refine' s_aug ?gA ?_); (case gA => exact rfl))
  | with_reducible refine s_ipI ?_
  | with_reducible refine s_forR ?_
  | with_reducible refine s_forR2 ?_
  | with_reducible refine s_forL ?_
  | with_reducible refine s_forT ?_
  | with_reducible refine s_lcR ?_
  | with_reducible refine s_lcL ?_
  | with_reducible refine s_gCons ?_
  | with_reducible refine s_gNil ?_
  | with_reducible refine s_gSub ?_
  | with_reducible refine s_slc ?_
  | with_reducible refine s_par ?_
  | with_reducible refine s_vw ?_
  | ((with_reducible refine' s_gTup ?gA ?gB ?_); (case gA => walk_at "tq"); (case gB => rfl))
  | ((with_reducible refine' s_gLst ?gA ?gB ?_); (case gA => walk_at "sq"); (case gB => rfl))
  | with_reducible refine s_nil ?_
  | with_reducible refine s_cons ?_
  | with_reducible refine s_call0 ?_
  | with_reducible refine s_call ?_
  | with_reducible refine s_CB ?_
  | with_reducible refine s_lst ?_
  | with_reducible refine s_tup ?_
  | with_reducible refine s_sl ?_
  | with_reducible refine s_part ?_
  | with_reducible refine s_nopart ?_
  | with_reducible refine s_int ?_
  | with_reducible refine s_intB ?_
  | with_reducible refine s_abs ?_
  | ((with_reducible refine' s_ixT ?gA ?gB ?_); (case gA => walk_at "tq"); (case gB => exact rfl))
  | ((with_reducible refine' s_ixL ?gA ?gB ?_); (case gA => walk_at "sq"); (case gB => exact rfl))
  | ((with_reducible refine' s_sum ?gA ?_); (case gA => walk_at "sq"))
  | with_reducible refine s_BM ?_
  | with_reducible refine s_BM0 ?_
  | ((with_reducible refine' n_ty ?gA ?_); (case gA => walk_at "sq"))
  | ((with_reducible refine' s_len ?gA ?_); (case gA => walk_at "sq"))
  | ((rename Kn _ _ _ _ => kk); (with_reducible refine' n_lst kk ?gA ?_); (case gA => exact small_len rfl); clear kk; intro _ _ kk)
  | ((rename Kn _ _ _ _ => kk); (with_reducible refine' n_tup kk ?gA ?_); (case gA => exact small_len rfl); clear kk; intro _ _ kk)
  | ((rename Kn _ _ _ _ => kk); (with_reducible refine' s_cat kk ?gA ?gB ?gC ?_); (case gA => walk_at "own"); (case gB => walk_at "own"); (case gC => walk_at "len"); clear kk; intro _ _ kk)
  | ((rename Kn _ _ _ _ => kk); (with_reducible refine' s_slL kk ?gA ?_); (case gA => walk_at "sq"); clear kk; intro _ _ kk)
  | ((rename Kn _ _ _ _ => kk); (with_reducible refine' s_list kk ?gA ?_); (case gA => walk_at "sq"); clear kk; intro _ _ kk)))

local macro_rules | `(tactic| walk_at "st") => `(tactic| ((try with_reducible refine s_next ?_); (try with_reducible refine s_seq ?_); (try walk_at "nz")))
local macro_rules | `(tactic| walk_at "len") => `(tactic| (simp only [List.length_append, List.length_map, List.length_replicate, List.length_cons, List.length_nil]; omega))
local macro_rules | `(tactic| walk_at "sub") => `(tactic| repeat (first | exact List.Sublist.slnil | exact List.nil_sublist _ | apply List.Sublist.cons₂ | apply List.Sublist.cons))

def topS (i : Nat) : Stmt := PySem.Challenge.pw_tidemark_k42_whole_numbers_and_rows.main.body.getD i (.Pass ⟨0, 0, 0, 0⟩)
abbrev s_number_row : Stmt := topS 1
abbrev N_number_row : List Str := ["number", "width", "row", "_"]
theorem sc_number_row : FnScope N_number_row ["number", "width"] (defScope s_number_row) := ⟨rfl, rfl, rfl, by decide +kernel, rfl, by decide +kernel, by decide +kernel⟩
abbrev s_row_number : Stmt := topS 2
abbrev N_row_number : List Str := ["row", "number", "octet"]
theorem sc_row_number : FnScope N_row_number ["row"] (defScope s_row_number) := ⟨rfl, rfl, rfl, by decide +kernel, rfl, by decide +kernel, by decide +kernel⟩
abbrev s_is_number : Stmt := topS 13
abbrev N_is_number : List Str := ["number"]
theorem sc_is_number : FnScope N_is_number ["number"] (defScope s_is_number) := ⟨rfl, rfl, rfl, by decide +kernel, rfl, by decide +kernel, by decide +kernel⟩
abbrev s_fits_page : Stmt := topS 18
abbrev N_fits_page : List Str := ["content", "children", "child"]
theorem sc_fits_page : FnScope N_fits_page ["content"] (defScope s_fits_page) := ⟨rfl, rfl, rfl, by decide +kernel, rfl, by decide +kernel, by decide +kernel⟩
abbrev s_content_body : Stmt := topS 23
abbrev N_content_body : List Str := ["content", "body", "child"]
theorem sc_content_body : FnScope N_content_body ["content"] (defScope s_content_body) := ⟨rfl, rfl, rfl, by decide +kernel, rfl, by decide +kernel, by decide +kernel⟩
abbrev s_summed_octets : Stmt := topS 26
abbrev N_summed_octets : List Str := ["page"]
theorem sc_summed_octets : FnScope N_summed_octets ["page"] (defScope s_summed_octets) := ⟨rfl, rfl, rfl, by decide +kernel, rfl, by decide +kernel, by decide +kernel⟩
abbrev s_page_sums : Stmt := topS 27
abbrev N_page_sums : List Str := ["page", "octets", "first", "second", "passed", "octet"]
theorem sc_page_sums : FnScope N_page_sums ["page"] (defScope s_page_sums) := ⟨rfl, rfl, rfl, by decide +kernel, rfl, by decide +kernel, by decide +kernel⟩
abbrev s_write_page : Stmt := topS 32
abbrev N_write_page : List Str := ["content", "body", "page", "first", "second"]
theorem sc_write_page : FnScope N_write_page ["content"] (defScope s_write_page) := ⟨rfl, rfl, rfl, by decide +kernel, rfl, by decide +kernel, by decide +kernel⟩
abbrev s_u_law_deck : Stmt := topS 34
abbrev N_u_law_deck : List Str := ["script", "cells", "each", "deck", "seed", "k", "cell", "rest", "turn"]
theorem sc_u_law_deck : FnScope N_u_law_deck ["script", "cells", "each"] (defScope s_u_law_deck) := ⟨rfl, rfl, rfl, by decide +kernel, rfl, by decide +kernel, by decide +kernel⟩
abbrev s_u_law_take : Stmt := topS 35
abbrev N_u_law_take : List Str := ["deck", "many"]
theorem sc_u_law_take : FnScope N_u_law_take ["deck", "many"] (defScope s_u_law_take) := ⟨rfl, rfl, rfl, by decide +kernel, rfl, by decide +kernel, by decide +kernel⟩
abbrev s_u_law_pick : Stmt := topS 36
abbrev N_u_law_pick : List Str := ["deck", "items"]
theorem sc_u_law_pick : FnScope N_u_law_pick ["deck", "items"] (defScope s_u_law_pick) := ⟨rfl, rfl, rfl, by decide +kernel, rfl, by decide +kernel, by decide +kernel⟩
abbrev s_law : Stmt := topS 37
abbrev N_law : List Str := ["script", "deck", "turn", "width", "most", "number", "row", "octet", "other", "second", "mark"]
theorem sc_law : FnScope N_law ["script"] (defScope s_law) := ⟨rfl, rfl, rfl, by decide +kernel, rfl, by decide +kernel, by decide +kernel⟩
structure Txt (w : World) (K : PySem.W.Frag) (mg : Str → Option Value) where
  m_range : mg "range" = none
  m_int : mg "int" = none
  m_list : mg "list" = none
  m_sum : mg "sum" = none
  m_len : mg "len" = none
  m_abs : mg "abs" = none
  t_NUMBER_LIMIT : Tok
  v_NUMBER_LIMIT : mg "NUMBER_LIMIT" = some (.int 4294967296 t_NUMBER_LIMIT)
  t_MODULUS : Tok
  v_MODULUS : mg "MODULUS" = some (.int 65521 t_MODULUS)
  a_KINDS : Addr
  v_KINDS : mg "KINDS" = some (.ref a_KINDS)
  e_KINDS_mark : KDct K w a_KINDS "mark" (.int 4)
  t_PAGE_SIZE : Tok
  v_PAGE_SIZE : mg "PAGE_SIZE" = some (.int 512 t_PAGE_SIZE)
  t_HEAD_SIZE : Tok
  v_HEAD_SIZE : mg "HEAD_SIZE" = some (.int 5 t_HEAD_SIZE)
  f_number_row : Addr
  d_number_row : FuncData
  F_number_row : Fun K "number_row" "number_row" s_number_row f_number_row d_number_row
  g_number_row : mg "number_row" = some (.ref f_number_row)
  b_number_row : Binds K d_number_row ["number", "width"] []
  f_row_number : Addr
  d_row_number : FuncData
  F_row_number : Fun K "row_number" "row_number" s_row_number f_row_number d_row_number
  g_row_number : mg "row_number" = some (.ref f_row_number)
  b_row_number : Binds K d_row_number ["row"] []
  f_is_number : Addr
  d_is_number : FuncData
  F_is_number : Fun K "is_number" "is_number" s_is_number f_is_number d_is_number
  g_is_number : mg "is_number" = some (.ref f_is_number)
  b_is_number : Binds K d_is_number ["number"] []
  f_fits_page : Addr
  d_fits_page : FuncData
  F_fits_page : Fun K "fits_page" "fits_page" s_fits_page f_fits_page d_fits_page
  g_fits_page : mg "fits_page" = some (.ref f_fits_page)
  b_fits_page : Binds K d_fits_page ["content"] []
  f_content_body : Addr
  d_content_body : FuncData
  F_content_body : Fun K "content_body" "content_body" s_content_body f_content_body d_content_body
  g_content_body : mg "content_body" = some (.ref f_content_body)
  b_content_body : Binds K d_content_body ["content"] []
  f_summed_octets : Addr
  d_summed_octets : FuncData
  F_summed_octets : Fun K "summed_octets" "summed_octets" s_summed_octets f_summed_octets d_summed_octets
  g_summed_octets : mg "summed_octets" = some (.ref f_summed_octets)
  b_summed_octets : Binds K d_summed_octets ["page"] []
  f_page_sums : Addr
  d_page_sums : FuncData
  F_page_sums : Fun K "page_sums" "page_sums" s_page_sums f_page_sums d_page_sums
  g_page_sums : mg "page_sums" = some (.ref f_page_sums)
  b_page_sums : Binds K d_page_sums ["page"] []
  f_write_page : Addr
  d_write_page : FuncData
  F_write_page : Fun K "write_page" "write_page" s_write_page f_write_page d_write_page
  g_write_page : mg "write_page" = some (.ref f_write_page)
  b_write_page : Binds K d_write_page ["content"] []
  f_u_law_deck : Addr
  d_u_law_deck : FuncData
  F_u_law_deck : Fun K "_law_deck" "_law_deck" s_u_law_deck f_u_law_deck d_u_law_deck
  g_u_law_deck : mg "_law_deck" = some (.ref f_u_law_deck)
  b_u_law_deck : Binds K d_u_law_deck ["script", "cells", "each"] []
  f_u_law_take : Addr
  d_u_law_take : FuncData
  F_u_law_take : Fun K "_law_take" "_law_take" s_u_law_take f_u_law_take d_u_law_take
  g_u_law_take : mg "_law_take" = some (.ref f_u_law_take)
  b_u_law_take : Binds K d_u_law_take ["deck", "many"] []
  f_u_law_pick : Addr
  d_u_law_pick : FuncData
  F_u_law_pick : Fun K "_law_pick" "_law_pick" s_u_law_pick f_u_law_pick d_u_law_pick
  g_u_law_pick : mg "_law_pick" = some (.ref f_u_law_pick)
  b_u_law_pick : Binds K d_u_law_pick ["deck", "items"] []
  f_law : Addr
  d_law : FuncData
  F_law : Fun K "law" "law" s_law f_law d_law
  g_law : mg "law" = some (.ref f_law)
  b_law : Binds K d_law ["script"] []
section
variable {P : Program} {w : World} {K : PySem.W.Frag} {mg : Str → Option Value} {base : Heap}
/-! ### the draws -/
def sp_u_law_take (K : PySem.W.Frag) : Sp := fun vs H Q _ => ∃ (d : Addr) (m : Int), vs = [.ref d, .int m] ∧ 0 < m ∧ DkOk d H ∧ ∀ n H', 0 ≤ n → n < m → Dx d H H' → Q (.int n) H'
theorem ok_u_law_take (T : Txt w K mg) : FnOk P w K mg base CX0 1 T.f_u_law_take T.d_u_law_take ["deck", "many"] (sp_u_law_take K) := by
  refine T.F_u_law_take.ok sc_u_law_take (fun vs H Q E h => ?_) (fun cdv A outer s H vs Q E hr h => ?_)
  · obtain ⟨_, _, rfl, _⟩ := h; rfl
  · obtain ⟨d, m, rfl, hm, ⟨ds, hd, hds, hl⟩, q⟩ := h
    refine ⟨_, (pss_one (ps_ret (pe_ifExp (pt_cmpR op_gt (pe_callB (kLen (K := K)) (by rfl) T.m_len (by decide +kernel) (pa_cons (pv 0) pa_nil)) pe_int (nomark _)) (pe_op op_mod (pe_callTy cInt (by rfl) T.m_int (by decide +kernel) (pa_cons (pe_bm0K (K := K) PySem.F.plainAttrs_list PySem.F.slot_list_pop PySem.F.type_list_pop mt_pop (pv 0)) pa_nil)) (pv 1)) pe_int))), ?_⟩
    have hS : SqL K H d (ds.map V.int) := .inl (.inl hd)
    walk_at "go"
    refine s_if ?_
    walk_at "go"
    refine ite_d (fun h => ?_) (fun h => ?_)
    · walk_at "go"
      have h0 : 0 < ds.length := by
        rw [List.length_map] at h
        omega
      have hla : (ds.map V.int)[(ds.map V.int).length - 1]? = some (.int (ds[ds.length - 1]'(by omega))) := by
        rw [List.length_map, List.getElem?_map, List.getElem?_eq_getElem (by omega)]; rfl
      refine ⟨d, _, _, rfl, rfl, hd, hla, ?_⟩
      walk_at "go"
      refine q _ _ (Int.emod_nonneg _ (by omega)) (Int.emod_lt_of_pos _ hm) ⟨fun a o na e => ?_, ds.dropLast, ?_, fun x hx => hds x (List.dropLast_subset _ hx), ?_⟩
      · rw [upd_ne na]; exact e
      · rw [upd_same, List.map_dropLast]
      · rw [List.length_dropLast]; omega
    · walk_at "go"
      exact q 0 H (Int.le_refl _) hm ⟨fun _ _ _ e => e, ds, hd, hds, hl⟩
def sp_u_law_pick (K : PySem.W.Frag) : Sp := fun vs H Q _ => ∃ (d a : Addr) (xs : List V), vs = [.ref d, .ref a] ∧ a ≠ d ∧ SqL K H a xs ∧ xs ≠ [] ∧ DkOk d H ∧ ∀ (n : Nat) x H', xs[n]? = some x → Dx d H H' → Q x H'
theorem ok_u_law_pick (T : Txt w K mg) : FnOk P w K mg base CX0 2 T.f_u_law_pick T.d_u_law_pick ["deck", "items"] (sp_u_law_pick K) := by
  refine T.F_u_law_pick.ok sc_u_law_pick (fun vs H Q E h => ?_) (fun cdv A outer s H vs Q E hr h => ?_)
  · obtain ⟨_, _, _, rfl, _⟩ := h; rfl
  · obtain ⟨d, a, xs, rfl, nad, hS, ne, hk, q⟩ := h
    refine ⟨_, (pss_one (ps_ret (pe_ix (kIxL (K := K)) (pv 1) (pe_call (ok_u_law_take T) hr (by rfl) T.g_u_law_take T.F_u_law_take.kp T.b_u_law_take .nil pass0 (pa_cons (pv 0) (pa_cons (pe_callB (kLen (K := K)) (by rfl) T.m_len (by decide +kernel) (pa_cons (pv 1) pa_nil)) pa_nil))) (fun _ _ => rfl)))), ?_⟩
    walk_at "go"
    have hl : 0 < xs.length := List.length_pos_iff.mpr ne
    refine ⟨d, _, rfl, by omega, hk, fun n H1 h0 h1 x1 => ?_⟩
    have hS1 : SqL K H1 a xs := (Kn.deck hk).dx x1 |>.sq hS (fun z => nad (Option.some.inj z))
    obtain ⟨j, rfl⟩ := Int.eq_ofNat_of_zero_le h0
    have hj : j < xs.length := by omega
    refine s_ixL hS1 (atI_nat (List.getElem?_eq_getElem hj)) ?_
    exact q j _ H1 (List.getElem?_eq_getElem hj) x1
end
section
variable {P : Program} {w : World} {K : PySem.W.Frag} {mg : Str → Option Value} {base : Heap}
def InDk (l : List Int) : Prop := ∀ x ∈ l, 0 ≤ x ∧ x < 1000003
theorem InDk.snoc {l : List Int} {x : Int} (h : InDk l) (h0 : 0 ≤ x) (h1 : x < 1000003) : InDk (l ++ [x]) := fun y hy => by
  rcases List.mem_append.mp hy with hy | hy
  · exact h y hy
  · rw [List.mem_singleton.mp hy]; exact ⟨h0, h1⟩
def sp_u_law_deck (K : PySem.W.Frag) : Sp := fun vs H Q _ => ∃ (a : Addr) (ns : List Int) (c e : Nat), vs = [.ref a, .int c, .int e] ∧ SqL K H a (ns.map V.int) ∧ ns.length ≤ 63 ∧ c ≤ 400 ∧ e ≤ 14 ∧
  ∀ H' p, Same H H' → H p = none → DkOk p H' → Q (.ref p) H'
theorem ok_u_law_deck (T : Txt w K mg) : FnOk P w K mg base CX0 1 T.f_u_law_deck T.d_u_law_deck ["script", "cells", "each"] (sp_u_law_deck K) := by
  refine T.F_u_law_deck.ok sc_u_law_deck (fun vs H Q E h => ?_) (fun cdv A outer s H vs Q E hr h => ?_)
  · obtain ⟨_, _, _, _, rfl, _⟩ := h; rfl
  · obtain ⟨a, ns, c, e, rfl, hS, hns, hc, he, q⟩ := h
    refine ⟨_, (pss_cons (ps_set (i := 3) sc_u_law_deck.nd rfl (by first | exact Or.inl rfl | exact Or.inr rfl) (pe_lst pa_nil))
      (pss_cons (ps_set (i := 4) sc_u_law_deck.nd rfl (by first | exact Or.inl rfl | exact Or.inr rfl) (pe_op op_add pe_int (pe_callB (kLen (K := K)) (by rfl) T.m_len (by decide +kernel) (pa_cons (pv 0) pa_nil))))
      (pss_cons (ps_for PassesOwn.never rfl (pi_range1 (by rfl) T.m_range (pa_cons (pv 1) pa_nil)) (pg_name (i := 5) sc_u_law_deck.nd rfl (by first | exact Or.inl rfl | exact Or.inr rfl))
        (pss_cons (ps_set (i := 6) sc_u_law_deck.nd rfl (by first | exact Or.inl rfl | exact Or.inr rfl) (pe_ifExp (pt_cmpR op_lt (pv 5) (pe_callB (kLen (K := K)) (by rfl) T.m_len (by decide +kernel) (pa_cons (pv 0) pa_nil)) (nomark _)) (pe_callTy cInt (by rfl) T.m_int (by decide +kernel) (pa_cons (pe_ix (kIxL (K := K)) (pv 0) (pv 5) (fun _ _ => rfl)) pa_nil)) pe_int))
        (pss_cons (ps_set (i := 7) sc_u_law_deck.nd rfl (by first | exact Or.inl rfl | exact Or.inr rfl) (pe_op op_mul (pe_callB cAbs (by rfl) T.m_abs (by decide +kernel) (pa_cons (pv 6) pa_nil)) (pe_callTy cInt (by rfl) T.m_int (by decide +kernel) (pa_cons (pe_cmpR op_ge (pe_callB cAbs (by rfl) T.m_abs (by decide +kernel) (pa_cons (pv 6) pa_nil)) (pe_op op_pow pe_int pe_int) (nomark _)) pa_nil))))
        (pss_cons (ps_set (i := 4) sc_u_law_deck.nd rfl (by first | exact Or.inl rfl | exact Or.inr rfl) (pe_op op_mod (pe_callTy cInt (by rfl) T.m_int (by decide +kernel) (pa_cons (pe_op op_add (pe_op op_add (pe_op op_add (pe_op op_mul (pv 4) pe_int) (pe_op op_mul pe_int (pe_op op_mod (pe_callTy cInt (by rfl) T.m_int (by decide +kernel) (pa_cons (pe_callB cAbs (by rfl) T.m_abs (by decide +kernel) (pa_cons (pv 6) pa_nil)) pa_nil)) pe_int))) (pe_callTy cInt (by rfl) T.m_int (by decide +kernel) (pa_cons (pe_cmpR op_lt (pv 6) pe_int (nomark _)) pa_nil))) (pv 5)) pa_nil)) pe_int))
        (pss_one (ps_for PassesOwn.never rfl (pi_range1 (by rfl) T.m_range (pa_cons (pv 2) pa_nil)) (pg_name (i := 8) sc_u_law_deck.nd rfl (by first | exact Or.inl rfl | exact Or.inr rfl))
          (pss_cons (ps_set (i := 4) sc_u_law_deck.nd rfl (by first | exact Or.inl rfl | exact Or.inr rfl) (pe_op op_mod (pe_callTy cInt (by rfl) T.m_int (by decide +kernel) (pa_cons (pe_op op_add (pe_op op_add (pe_op op_mul (pv 4) pe_int) (pv 8)) pe_int) pa_nil)) pe_int))
          (pss_cons (ps_expr (pe_bmK (K := K) PySem.F.plainAttrs_list PySem.F.slot_list_append PySem.F.type_list_append mt_append (pv 3) (pa_cons (pe_op op_mod (pe_callTy cInt (by rfl) T.m_int (by decide +kernel) (pa_cons (pe_ix (kIxL (K := K)) (pe_lst (pa_cons (pe_op op_fdiv (pv 4) pe_int) (pa_cons (pv 7) pa_nil))) (pe_callTy cInt (by rfl) T.m_int (by decide +kernel) (pa_cons (pe_cmpR op_gt (pv 7) pe_int (nomark _)) pa_nil)) (fun _ _ => rfl)) pa_nil)) pe_int) pa_nil)))
          (pss_one (ps_set (i := 7) sc_u_law_deck.nd rfl (by first | exact Or.inl rfl | exact Or.inr rfl) (pe_op op_fdiv (pv 7) pe_int)))))))))))
      (pss_cons (ps_expr (pe_bm0K (K := K) PySem.F.plainAttrs_list PySem.F.slot_list_reverse PySem.F.type_list_reverse mt_reverse (pv 3)))
      (pss_one (ps_ret (pv 3))))))), ?_⟩
    have kk := Kn.nil (H := H)
    walk_at "go"
    rename_i p H1 kk
    refine n_for (by omega) (by omega) (fun i σ H' => ∃ (sd : Int) (ds : List Int) (y5 y6 y7 y8 : Option V), σ = [some (.ref a), some (.int c), some (.int e), some (.ref p), some (.int sd), y5, y6, y7, y8] ∧
      Kn none H [(p, .lst (ds.map V.int))] H' ∧ InDk ds ∧ ds.length = i * e ∧ 0 ≤ sd ∧ sd < 3000000000
      ) ⟨_, [], none, none, none, none, rfl, kk, (fun _ z => nomatch z), by simp, by omega, by rw [List.length_map]; omega⟩ (fun i σ H' hi hp => ?_) (fun σ H' hp => ?_)
    · obtain ⟨sd, ds, y5, y6, y7, y8, rfl, kk, hds, hl, h0, h1⟩ := hp
      walk_at "go"
      refine s_ifJ (R := fun v H2 => H2 = H' ∧ ∃ z, v = .int z) (fun Q' q' => ?_) (fun v H2 hv => ?_)
      · refine s_if ?_
        walk_at "go"
        refine ite_d (fun h => ?_) (fun h => ?_)
        · walk_at "go"
          rw [List.length_map] at h
          refine s_ixL (kk.sq hS (fun z => nomatch z)) (atI_nat (j := i) (by rw [List.getElem?_map, List.getElem?_eq_getElem (by omega)]; rfl)) ?_
          walk_at "go"
          exact q' _ _ ⟨rfl, _, rfl⟩
        · walk_at "go"
          exact q' _ _ ⟨rfl, _, rfl⟩
      · obtain ⟨rfl, z, rfl⟩ := hv
        walk_at "go"
        refine n_for (by omega) (by omega) (fun j σ H3 => ∃ (sd rs : Int) (ds : List Int) (y8 : Option V), σ = [some (.ref a), some (.int c), some (.int e), some (.ref p), some (.int sd), some (.int i), some (.int z), some (.int rs), y8] ∧
          Kn none H [(p, .lst (ds.map V.int))] H3 ∧ InDk ds ∧ ds.length = i * e + j ∧ 0 ≤ sd ∧ sd < 3000000000
          ) ⟨_, _, ds, _, rfl, kk, hds, by omega, Int.emod_nonneg _ (by decide), Int.lt_trans (Int.emod_lt_of_pos _ (by decide)) (by decide)⟩ (fun j σ H3 hj hp => ?_) (fun σ H3 hp => ?_)
        · obtain ⟨sd, rs, ds, y8, rfl, kk, hds, hl, h0, h1⟩ := hp
          walk_at "go"
          rename_i tp H4 kk4
          refine s_ixL (v := .int (if 0 < rs then rs else (sd * 69621 + j + 1) % 2147483629 / 7)) (kn_sq kk4 0 rfl) (by by_cases h : 0 < rs <;> simp [h] <;> rfl) ?_
          walk_at "go"
          refine a_append kk4 1 rfl (by rw [List.length_map, hl]; have := Nat.mul_le_mul (show i ≤ 400 by omega) he; omega) (fun H5 k5 => ?_)
          walk_at "go"
          refine ⟨_, _, ds ++ [(if 0 < rs then rs else (sd * 69621 + j + 1) % 2147483629 / 7) % 1000003], _, rfl, ?_, hds.snoc (Int.emod_nonneg _ (by decide)) (Int.emod_lt_of_pos _ (by decide)), ?_, Int.emod_nonneg _ (by decide), Int.lt_trans (Int.emod_lt_of_pos _ (by decide)) (by decide)⟩
          · rw [List.map_append]
            exact k5.forget 1
          · rw [List.length_append, hl]; rfl
        · obtain ⟨sd, rs, ds, y8, rfl, kk, hds, hl, h0, h1⟩ := hp
          refine ⟨sd, ds, _, _, _, _, rfl, kk, hds, ?_, h0, h1⟩
          rw [hl, Int.toNat_natCast, Nat.succ_mul]
    · obtain ⟨sd, ds, y5, y6, y7, y8, rfl, kk, hds, hl, h0, h1⟩ := hp
      walk_at "go"
      refine a_reverse kk 0 rfl (fun H5 k5 => ?_)
      walk_at "go"
      refine q H5 p k5.toSame (k5.nw_at 0 rfl) ⟨ds.reverse, ?_, fun x hx => hds x (List.mem_reverse.mp hx), ?_⟩
      · rw [List.map_reverse]; exact k5.get 0 rfl
      · rw [List.length_reverse, hl, Int.toNat_natCast]
        exact Nat.le_trans (Nat.mul_le_mul hc he) (by decide)
end
section
variable {K : PySem.W.Frag} {H H0 : Hp} {Q : VK} {E : XK} {d a : Addr} {G : List (Addr × HO)} {m : Int} {xs : List V}
theorem u_take (k : Kn (some d) H0 G H) (hm : 0 < m) (q : ∀ n H', 0 ≤ n → n < m → Kn (some d) H0 G H' → Q (.int n) H') : sp_u_law_take K [.ref d, .int m] H Q E :=
  ⟨d, m, rfl, hm, k.dk', fun n H' h0 h1 x => q n H' h0 h1 (k.dx x)⟩
theorem u_pick (k : Kn (some d) H0 G H) (i : Nat) (h : G[i]? = some (a, .lst xs)) (ne : xs ≠ []) (q : ∀ x H', x ∈ xs → Kn (some d) H0 G H' → Q x H') : sp_u_law_pick K [.ref d, .ref a] H Q E :=
  ⟨d, a, xs, rfl, fun z => k.dk0 d rfl (z ▸ k.nw_at i h), kn_sq k i h, ne, k.dk', fun n x H' hx e => q x H' (List.mem_of_getElem? hx) (k.dx e)⟩
end
local macro_rules | `(tactic| walk_at "dr") => `(tactic| first
  | ((rename Kn _ _ _ _ => kk); (with_reducible refine' u_take kk ?gA ?_); (case gA => first | omega | decide); clear kk; intro _ _ _ _ kk)
  | ((rename Kn _ _ _ _ => kk); (with_reducible refine' u_pick kk 0 rfl ?gA ?_); (case gA => exact List.cons_ne_nil _ _); clear kk; intro _ _ _ kk))
local macro_rules | `(tactic| walk_at "gd") => `(tactic| repeat (first | walk_at "dr" | (walk_at "go1")))

/-! ### sums -/
def smd (ns : List Int) : List Int := ns.take 1 ++ ns.drop 5
def wsum : List Int → Int
  | [] => 0
  | x :: r => x * (r.length + 1) + wsum r
theorem wsum_append : ∀ a b : List Int, wsum (a ++ b) = wsum a + a.sum * b.length + wsum b
  | [], b => by simp [wsum]
  | x :: a, b => by
    have ih := wsum_append a b
    show x * (((a ++ b).length : Int) + 1) + wsum (a ++ b) = (x * ((a.length : Int) + 1) + wsum a) + (x :: a).sum * b.length + wsum b
    rw [ih, List.sum_cons, List.length_append, Int.add_mul, Int.natCast_add, Int.mul_add, Int.mul_add, Int.mul_add]
    omega
theorem wsum_snoc (l : List Int) (x : Int) : wsum (l ++ [x]) = wsum l + l.sum + x := by
  rw [wsum_append]
  simp [wsum]
theorem wsum_rep0 : ∀ n : Nat, wsum (List.replicate n 0) = 0
  | 0 => rfl
  | n + 1 => by
    show 0 * _ + wsum (List.replicate n 0) = 0
    rw [wsum_rep0 n]; simp
theorem sum_rep0 : ∀ n : Nat, (List.replicate n (0 : Int)).sum = 0
  | 0 => rfl
  | n + 1 => by rw [List.replicate_succ, List.sum_cons, sum_rep0 n]; rfl
theorem wsum_set : ∀ (l : List Int) (i : Nat) (z v : Int), l[i]? = some z → wsum (l.set i v) = wsum l + (v - z) * ((l.length : Int) - i)
  | [], i, z, v, h => by simp at h
  | x :: r, 0, z, v, h => by
    have e : x = z := Option.some.inj h
    subst e
    show v * ((r.length : Int) + 1) + wsum r = (x * ((r.length : Int) + 1) + wsum r) + (v - x) * (((r.length + 1 : Nat) : Int) - 0)
    rw [Int.sub_zero, Int.natCast_add, Int.sub_mul]
    show v * ((r.length : Int) + 1) + wsum r = (x * ((r.length : Int) + 1) + wsum r) + (v * ((r.length : Int) + 1) - x * ((r.length : Int) + 1))
    omega
  | x :: r, i + 1, z, v, h => by
    have ih := wsum_set r i z v h
    show x * (((r.set i v).length : Int) + 1) + wsum (r.set i v) = (x * ((r.length : Int) + 1) + wsum r) + (v - z) * (((r.length + 1 : Nat) : Int) - ((i + 1 : Nat) : Int))
    rw [ih, List.length_set, show ((r.length + 1 : Nat) : Int) - ((i + 1 : Nat) : Int) = (r.length : Int) - i by omega]
    omega
/-- the two sums -/
def S1 (ns : List Int) : Int := (smd ns).sum
def S2 (ns : List Int) : Int := wsum (smd ns)
section
variable {P : Program} {w : World} {K : PySem.W.Frag} {mg : Str → Option Value} {base : Heap}
theorem cut5 (ns : List Int) (h : 5 ≤ ns.length) : cutV (ns.map V.int) (some 5) none = (ns.drop 5).map V.int := by
  unfold cutV
  rw [show HT.sIx (ns.map V.int).length 0 (some 5) = 5 by
    rw [List.length_map]
    have := HT.sIx_nat ns.length 0 5
    rw [show ((5 : Nat) : Int) = 5 from rfl] at this
    rw [this]; omega, HT.sIx_none, List.map_drop]
  exact List.take_of_length_le (by rw [List.length_drop]; omega)
def sp_summed_octets (K : PySem.W.Frag) : Sp := fun vs H Q _ => ∃ (a : Addr) (ns : List Int), vs = [.ref a] ∧ SqL K H a (ns.map V.int) ∧ ns.length = 512 ∧
  ∀ H' p, Same H H' → H p = none → H' p = some (.lst ((smd ns).map V.int)) → Q (.ref p) H'
theorem ok_summed_octets (T : Txt w K mg) : FnOk P w K mg base CX0 1 T.f_summed_octets T.d_summed_octets ["page"] (sp_summed_octets K) := by
  refine T.F_summed_octets.ok sc_summed_octets (fun vs H Q E h => ?_) (fun cdv A outer s H vs Q E hr h => ?_)
  · obtain ⟨_, _, rfl, _⟩ := h; rfl
  · obtain ⟨a, ns, rfl, hS, hl, q⟩ := h
    refine ⟨_, (pss_one (ps_ret (pe_op op_cat (pe_lst (pa_cons (pe_ix (kIxL (K := K)) (pv 0) pe_int (fun _ _ => rfl)) pa_nil)) (pe_callTy (kList (K := K)) (by rfl) T.m_list (by decide +kernel) (pa_cons (pe_slice (kSlL (K := K)) (pv 0) (po_some pe_int) po_none) pa_nil))))), ?_⟩
    have kk := Kn.nil (H := H)
    walk_at "go"
    have h0 : 0 < ns.length := by omega
    refine s_ixL hS (atI_nat (j := 0) (v := .int (ns[0]'h0)) (by rw [List.getElem?_map, List.getElem?_eq_getElem h0]; rfl)) ?_
    walk_at "go"
    rename_i p1 H1 p2 H2 p3 H3 k3
    rw [cut5 ns (by omega)] at k3
    refine s_cat k3 (k3.get 2 rfl) (k3.get 0 rfl) (by rw [List.length_map, List.length_drop]; simp only [List.length_cons, List.length_nil]; omega) (fun l H4 k4 => ?_)
    refine q H4 l k4.toSame (k4.nw_at 0 rfl) ?_
    rw [k4.get 0 rfl]
    have e : ns.take 1 = [ns[0]'h0] := by
      match ns, h0 with
      | x :: r, _ => rfl
    unfold smd
    rw [e, List.map_append]
    try rfl
def sp_page_sums (K : PySem.W.Frag) : Sp := fun vs H Q _ => ∃ (a : Addr) (ns : List Int), vs = [.ref a] ∧ SqL K H a (ns.map V.int) ∧ ns.length = 512 ∧
  ∀ H' p, Same H H' → H p = none → H' p = some (.tup [.int (S1 ns % 65521), .int (S2 ns % 65521)]) → Q (.ref p) H'
theorem ok_page_sums (T : Txt w K mg) : FnOk P w K mg base CX0 2 T.f_page_sums T.d_page_sums ["page"] (sp_page_sums K) := by
  refine T.F_page_sums.ok sc_page_sums (fun vs H Q E h => ?_) (fun cdv A outer s H vs Q E hr h => ?_)
  · obtain ⟨_, _, rfl, _⟩ := h; rfl
  · obtain ⟨a, ns, rfl, hS, hl, q⟩ := h
    refine ⟨_, (pss_cons (ps_set (i := 1) sc_page_sums.nd rfl (by first | exact Or.inl rfl | exact Or.inr rfl) (pe_call (ok_summed_octets T) hr (by rfl) T.g_summed_octets T.F_summed_octets.kp T.b_summed_octets .nil pass0 (pa_cons (pv 0) pa_nil)))
      (pss_cons (ps_set (i := 2) sc_page_sums.nd rfl (by first | exact Or.inl rfl | exact Or.inr rfl) (pe_callB (kSum (K := K) rfl) (by rfl) T.m_sum (by decide +kernel) (pa_cons (pv 1) pa_nil)))
      (pss_cons (ps_set (i := 3) sc_page_sums.nd rfl (by first | exact Or.inl rfl | exact Or.inr rfl) pe_int)
      (pss_cons (ps_set (i := 4) sc_page_sums.nd rfl (by first | exact Or.inl rfl | exact Or.inr rfl) pe_int)
      (pss_cons (ps_for PassesOwn.never rfl (pi_listK (K := K) (pv 1)) (pg_name (i := 5) sc_page_sums.nd rfl (by first | exact Or.inl rfl | exact Or.inr rfl))
        (pss_cons (ps_aug (i := 4) sc_page_sums.nd rfl (by first | exact Or.inl rfl | exact Or.inr rfl) (pv 5) ip_add)
        (pss_one (ps_aug (i := 3) sc_page_sums.nd rfl (by first | exact Or.inl rfl | exact Or.inr rfl) (pv 4) ip_add))))
      (pss_one (ps_ret (pe_tup (pa_cons (pe_op op_mod (pe_callTy cInt (by rfl) T.m_int (by decide +kernel) (pa_cons (pv 2) pa_nil)) (pe_glob (v := .int 65521) (by rfl) T.v_MODULUS ⟨_, rfl⟩)) (pa_cons (pe_op op_mod (pe_callTy cInt (by rfl) T.m_int (by decide +kernel) (pa_cons (pv 3) pa_nil)) (pe_glob (v := .int 65521) (by rfl) T.v_MODULUS ⟨_, rfl⟩)) pa_nil)))))))))), ?_⟩
    have kk := Kn.nil (H := H)
    walk_at "go"
    refine ⟨a, ns, rfl, hS, hl, fun H1 p sm hn hp => ?_⟩
    have kk := kk.ret hn sm hp
    walk_at "go"
    refine n_forL (kn_sq kk 0 rfl) (fun i σ H' => ∃ y5, σ = [some (.ref a), some (.ref p), some (.int (S1 ns)), some (.int (wsum ((smd ns).take i))), some (.int ((smd ns).take i).sum), y5] ∧ Kn none H [(p, .lst ((smd ns).map V.int))] H')
      ⟨_, rfl, kk⟩ (fun i σ H' hi hp => ?_) (fun i x σ H' hx hp => ?_) (fun σ H' hp => ?_)
    · obtain ⟨_, _, k⟩ := hp
      exact kn_sq k 0 rfl
    · obtain ⟨y5, rfl, k⟩ := hp
      obtain ⟨z, hz, rfl⟩ : ∃ z, (smd ns)[i]? = some z ∧ V.int z = x := by
        rw [List.getElem?_map] at hx
        cases e : (smd ns)[i]? with
        | none => rw [e] at hx; cases hx
        | some z => rw [e] at hx; exact ⟨z, rfl, Option.some.inj hx⟩
      walk_at "go"
      refine ⟨some (.int z), ?_, k⟩
      have e : (smd ns).take (i + 1) = (smd ns).take i ++ [z] := by rw [List.take_add_one, hz]; rfl
      rw [e, wsum_snoc, List.sum_append]
      rw [show ([z] : List Int).sum = z by simp, Int.add_assoc]
      rfl
    · obtain ⟨y5, rfl, k⟩ := hp
      rw [List.take_of_length_le (by rw [List.length_map]; exact Nat.le_refl _)]
      walk_at "go"
      rename_i p2 H2 k2
      exact q H2 p2 k2.toSame (k2.nw_at 0 rfl) (k2.get 0 rfl)
end

/-! ### rows of octets -/
def row : Nat → Int → List Int
  | 0, _ => []
  | w + 1, n => row w (n / 256) ++ [n % 256]
def B : Nat → Int
  | 0 => 1
  | w + 1 => 256 * B w
theorem B_pos : ∀ w, 0 < B w
  | 0 => by decide
  | w + 1 => by have := B_pos w; show 0 < 256 * B w; omega
def rn (ns : List Int) : Int := ns.foldl (fun a o => 256 * a + o) 0
theorem rn_snoc (ns : List Int) (o : Int) : rn (ns ++ [o]) = 256 * rn ns + o := by unfold rn; rw [List.foldl_append]; rfl
theorem row_len : ∀ w n, (row w n).length = w
  | 0, _ => rfl
  | w + 1, n => by show (row w (n / 256) ++ [n % 256]).length = _; rw [List.length_append, row_len w]; rfl
theorem div_lt {w : Nat} {n : Int} (h : n < B (w + 1)) : n / 256 < B w := by
  have : n < 256 * B w := h
  omega
theorem rn_row : ∀ w n, 0 ≤ n → n < B w → rn (row w n) = n
  | 0, n, h0, h1 => by
    have : n < 1 := h1
    have e : n = 0 := by omega
    rw [e]; rfl
  | w + 1, n, h0, h1 => by
    show rn (row w (n / 256) ++ [n % 256]) = n
    rw [rn_snoc, rn_row w (n / 256) (by omega) (div_lt h1)]
    omega
theorem row_oct : ∀ w n, ∀ x ∈ row w n, 0 ≤ x ∧ x < 256
  | 0, _ => (fun _ z => nomatch z)
  | w + 1, n => fun x hx => by
    rcases List.mem_append.mp hx with h | h
    · exact row_oct w _ x h
    · rw [List.mem_singleton.mp h]; omega
theorem rn_zeros : ∀ (k : Nat) (ns : List Int), rn (List.replicate k 0 ++ ns) = rn ns
  | 0, ns => rfl
  | k + 1, ns => by
    show rn (List.replicate k 0 ++ ns) = rn ns
    exact rn_zeros k ns
theorem row_wide : ∀ w n, 0 ≤ n → n < B w → row (w + 1) n = 0 :: row w n
  | 0, n, h0, h1 => by
    have : n < 1 := h1
    have e : n = 0 := by omega
    rw [e]; rfl
  | w + 1, n, h0, h1 => by
    show row (w + 1) (n / 256) ++ [n % 256] = 0 :: (row w (n / 256) ++ [n % 256])
    rw [row_wide w (n / 256) (by omega) (div_lt h1)]; rfl
theorem row_seven (w : Nat) (n : Int) : row (w + 1) (n * 256 + 7) = row w n ++ [7] := by
  show row w ((n * 256 + 7) / 256) ++ [(n * 256 + 7) % 256] = _
  rw [show (n * 256 + 7) / 256 = n by omega, show (n * 256 + 7) % 256 = 7 by omega]
theorem row_cut (w : Nat) (n : Int) : (row (w + 1) n).dropLast = row w (n / 256) := by
  show (row w (n / 256) ++ [n % 256]).dropLast = _
  rw [List.dropLast_concat]
theorem row_inj {w : Nat} {n m : Int} (h0 : 0 ≤ n) (h1 : n < B w) (g0 : 0 ≤ m) (g1 : m < B w) : decide (row w n = row w m) = decide (n = m) := by
  by_cases h : n = m
  · rw [h]; simp
  · have : row w n ≠ row w m := fun z => h (by rw [← rn_row w n h0 h1, ← rn_row w m g0 g1, z])
    simp [h, this]
theorem llt_snoc : ∀ (xs ys : List Int) (a b : Int), xs.length = ys.length → llt (xs ++ [a]) (ys ++ [b]) = if xs = ys then decide (a < b) else llt xs ys
  | [], [], a, b, _ => by
    show (if a = b then llt [] [] else decide (a < b)) = if ([] : List Int) = [] then decide (a < b) else llt [] []
    rw [if_pos rfl]
    by_cases h : a = b
    · rw [if_pos h, h]; simp [llt]
    · rw [if_neg h]
  | x :: xs, y :: ys, a, b, h => by
    have ih := llt_snoc xs ys a b (by simpa using h)
    show (if x = y then llt (xs ++ [a]) (ys ++ [b]) else decide (x < y)) = if x :: xs = y :: ys then decide (a < b) else (if x = y then llt xs ys else decide (x < y))
    rw [ih]
    by_cases h1 : x = y <;> by_cases h2 : xs = ys <;> simp [h1, h2]
theorem llt_row : ∀ (w : Nat) (n m : Int), 0 ≤ n → n < B w → 0 ≤ m → m < B w → llt (row w n) (row w m) = decide (n < m)
  | 0, n, m, h0, h1, g0, g1 => by
    have : n < 1 := h1
    have : m < 1 := g1
    rw [decide_eq_false (by omega)]; rfl
  | w + 1, n, m, h0, h1, g0, g1 => by
    show llt (row w (n / 256) ++ [n % 256]) (row w (m / 256) ++ [m % 256]) = _
    rw [llt_snoc _ _ _ _ (by rw [row_len, row_len]), llt_row w _ _ (by omega) (div_lt h1) (by omega) (div_lt g1)]
    have e := row_inj (w := w) (n := n / 256) (m := m / 256) (by omega) (div_lt h1) (by omega) (div_lt g1)
    by_cases h : n / 256 = m / 256
    · rw [h, if_pos rfl]
      simp only [decide_eq_decide]
      omega
    · rw [if_neg (fun z => h (by simpa [z] using e))]
      simp only [decide_eq_decide]
      omega
theorem rn_two : ∀ (w : Nat) (ns : List Int) (m : Int), 0 ≤ m → m < B w → rn (ns ++ row w m) = rn ns * B w + m
  | 0, ns, m, h0, h1 => by
    have : m < 1 := h1
    have e : m = 0 := by omega
    subst e
    show rn (ns ++ []) = rn ns * 1 + 0
    rw [List.append_nil]; omega
  | w + 1, ns, m, h0, h1 => by
    show rn (ns ++ (row w (m / 256) ++ [m % 256])) = rn ns * (256 * B w) + m
    rw [← List.append_assoc, rn_snoc, rn_two w ns (m / 256) (by omega) (div_lt h1), Int.mul_add, Int.mul_left_comm]
    omega
theorem row_comp : ∀ (w : Nat) (n : Int), row w (B w - 1 - n) = (row w n).map (255 - ·)
  | 0, n => rfl
  | w + 1, n => by
    show row w ((256 * B w - 1 - n) / 256) ++ [(256 * B w - 1 - n) % 256] = (row w (n / 256) ++ [n % 256]).map (255 - ·)
    rw [List.map_append, ← row_comp w (n / 256), show (256 * B w - 1 - n) / 256 = B w - 1 - n / 256 by omega, show (256 * B w - 1 - n) % 256 = 255 - n % 256 by omega]
    rfl
theorem rep1 {n : Int} {z : Int} : (List.replicate n.toNat [V.int z]).flatten = (List.replicate n.toNat z).map V.int := by
  rw [List.map_replicate]
  induction n.toNat with
  | zero => rfl
  | succ m ih =>
    show V.int z :: (List.replicate m [V.int z]).flatten = V.int z :: List.replicate m (V.int z)
    rw [ih]
theorem cutIJ (xs : List V) (i j : Nat) (hi : i ≤ xs.length) (hj : j ≤ xs.length) : cutV xs (some (i : Int)) (some (j : Int)) = (xs.drop i).take (j - i) := by
  unfold cutV
  rw [HT.sIx_nat, HT.sIx_nat, Nat.min_eq_left hi, Nat.min_eq_left hj]
theorem cutI (xs : List V) (i : Nat) (hi : i ≤ xs.length) : cutV xs (some (i : Int)) none = xs.drop i := by
  unfold cutV
  rw [HT.sIx_nat, HT.sIx_none, Nat.min_eq_left hi]
  exact List.take_of_length_le (by rw [List.length_drop]; omega)
theorem cutLast (xs : List V) (h : 0 < xs.length) : cutV xs none (some (-1)) = xs.dropLast := by
  unfold cutV
  have e : HT.sIx xs.length xs.length (some (-1)) = xs.length - 1 := by
    have := HT.clip_eq (-1) xs.length xs.length
    rw [if_pos (by decide)] at this
    omega
  rw [HT.sIx_none, e, List.dropLast_eq_take]
  rfl
section
variable {P : Program} {w : World} {K : PySem.W.Frag} {mg : Str → Option Value} {base : Heap}
def sp_number_row (K : PySem.W.Frag) : Sp := fun vs H Q _ => ∃ (n : Int) (m : Nat), vs = [.int n, .int m] ∧ m ≤ 100 ∧
  ∀ H' p, Same H H' → H p = none → H' p = some (.lst ((row m n).map V.int)) → Q (.ref p) H'
theorem ok_number_row (T : Txt w K mg) : FnOk P w K mg base CX0 1 T.f_number_row T.d_number_row ["number", "width"] (sp_number_row K) := by
  refine T.F_number_row.ok sc_number_row (fun vs H Q E h => ?_) (fun cdv A outer s H vs Q E hr h => ?_)
  · obtain ⟨_, _, rfl, _⟩ := h; rfl
  · obtain ⟨n, m, rfl, hm, q⟩ := h
    refine ⟨_, (pss_cons (ps_set (i := 2) sc_number_row.nd rfl (by first | exact Or.inl rfl | exact Or.inr rfl) (pe_lst pa_nil))
      (pss_cons (ps_for PassesOwn.never rfl (pi_range1 (by rfl) T.m_range (pa_cons (pv 1) pa_nil)) (pg_name (i := 3) sc_number_row.nd rfl (by first | exact Or.inl rfl | exact Or.inr rfl))
        (pss_cons (ps_expr (pe_bmK (K := K) PySem.F.plainAttrs_list PySem.F.slot_list_append PySem.F.type_list_append mt_append (pv 2) (pa_cons (pe_op op_mod (pe_callTy cInt (by rfl) T.m_int (by decide +kernel) (pa_cons (pv 0) pa_nil)) pe_int) pa_nil)))
        (pss_one (ps_set (i := 0) sc_number_row.nd rfl (by first | exact Or.inl rfl | exact Or.inr rfl) (pe_op op_fdiv (pv 0) pe_int)))))
      (pss_one (ps_ret (pe_revLK (K := K) (pv 2)))))), ?_⟩
    have kk := Kn.nil (H := H)
    walk_at "go"
    rename_i p H1 kk
    refine n_for (by omega) (by omega) (fun i σ H' => ∃ (c : Int) (acc : List Int) (y : Option V), σ = [some (.int c), some (.int m), some (.ref p), y] ∧ Kn none H [(p, .lst (acc.map V.int))] H' ∧ acc.length = i ∧ row m n = row (m - i) c ++ acc.reverse)
      ⟨n, [], _, rfl, kk, rfl, by simp⟩ (fun i σ H' hi hp => ?_) (fun σ H' hp => ?_)
    · obtain ⟨c, acc, y, rfl, kk, hl, he⟩ := hp
      have hi : i < m := hi
      walk_at "go"
      refine a_append kk 0 rfl (by rw [List.length_map]; omega) (fun H2 k2 => ?_)
      walk_at "go"
      refine ⟨_, acc ++ [c % 256], _, rfl, by rw [List.map_append]; exact k2, by rw [List.length_append, hl]; rfl, ?_⟩
      rw [he, show m - i = (m - (i + 1)) + 1 by omega]
      show (row (m - (i + 1)) (c / 256) ++ [c % 256]) ++ acc.reverse = _
      rw [List.reverse_append, List.append_assoc]; rfl
    · obtain ⟨c, acc, y, rfl, kk, hl, he⟩ := hp
      have e : row m n = acc.reverse := by rw [he, show m - Int.toNat (m : Int) = 0 by simp]; rfl
      walk_at "go"
      rename_i p2 H2 k2
      refine q H2 p2 k2.toSame (k2.nw_at 0 rfl) ?_
      rw [k2.get 0 rfl, e, List.map_reverse]
def sp_row_number (K : PySem.W.Frag) : Sp := fun vs H Q _ => ∃ (a : Addr) (ns : List Int), vs = [.ref a] ∧ SqL K H a (ns.map V.int) ∧ ns.length ≤ 1000 ∧ ∀ H', Same H H' → Q (.int (rn ns)) H'
theorem ok_row_number (T : Txt w K mg) : FnOk P w K mg base CX0 1 T.f_row_number T.d_row_number ["row"] (sp_row_number K) := by
  refine T.F_row_number.ok sc_row_number (fun vs H Q E h => ?_) (fun cdv A outer s H vs Q E hr h => ?_)
  · obtain ⟨_, _, rfl, _⟩ := h; rfl
  · obtain ⟨a, ns, rfl, hS, hn, q⟩ := h
    refine ⟨_, (pss_cons (ps_set (i := 1) sc_row_number.nd rfl (by first | exact Or.inl rfl | exact Or.inr rfl) pe_int)
      (pss_cons (ps_for PassesOwn.never rfl (pi_listK (K := K) (pv 0)) (pg_name (i := 2) sc_row_number.nd rfl (by first | exact Or.inl rfl | exact Or.inr rfl))
        (pss_one (ps_set (i := 1) sc_row_number.nd rfl (by first | exact Or.inl rfl | exact Or.inr rfl) (pe_op op_add (pe_op op_mul pe_int (pv 1)) (pv 2)))))
      (pss_one (ps_ret (pv 1))))), ?_⟩
    have kk := Kn.nil (H := H)
    walk_at "go"
    refine n_forL hS (fun i σ H' => ∃ y, σ = [some (.ref a), some (.int (rn (ns.take i))), y] ∧ Kn none H [] H') ⟨_, rfl, kk⟩ (fun i σ H' hi hp => ?_) (fun i x σ H' hx hp => ?_) (fun σ H' hp => ?_)
    · obtain ⟨_, _, k⟩ := hp
      exact k.sq hS (fun z => nomatch z)
    · obtain ⟨y, rfl, k⟩ := hp
      obtain ⟨z, hz, rfl⟩ : ∃ z, ns[i]? = some z ∧ V.int z = x := by
        rw [List.getElem?_map] at hx
        cases e : ns[i]? with
        | none => rw [e] at hx; cases hx
        | some z => rw [e] at hx; exact ⟨z, rfl, Option.some.inj hx⟩
      walk_at "go"
      refine ⟨some (.int z), ?_, k⟩
      rw [show ns.take (i + 1) = ns.take i ++ [z] by rw [List.take_add_one, hz]; rfl, rn_snoc]
      rfl
    · obtain ⟨y, rfl, k⟩ := hp
      rw [List.take_of_length_le (by rw [List.length_map]; exact Nat.le_refl _)]
      walk_at "go"
      exact q H' k.toSame
def sp_is_number (K : PySem.W.Frag) : Sp := fun vs H Q _ => ∃ n : Int, vs = [.int n] ∧ 0 ≤ n ∧ n < 4294967296 ∧ Q (.bl true) H
theorem ok_is_number (T : Txt w K mg) : FnOk P w K mg base CX0 1 T.f_is_number T.d_is_number ["number"] (sp_is_number K) := by
  refine T.F_is_number.ok sc_is_number (fun vs H Q E h => ?_) (fun cdv A outer s H vs Q E hr h => ?_)
  · obtain ⟨_, rfl, _⟩ := h; rfl
  · obtain ⟨n, rfl, h0, h1, q⟩ := h
    refine ⟨_, (pss_one (ps_ret (pe_chain op_le op_lt pe_int (pv 0) (pe_glob (v := .int 4294967296) (by rfl) T.v_NUMBER_LIMIT ⟨_, rfl⟩)))), ?_⟩
    walk_at "go"
    refine ite_yes (decide_eq_true h0) ?_
    walk_at "go"
    rw [decide_eq_true h1]
    exact q
def sp_fits_page (K : PySem.W.Frag) : Sp := fun vs H Q _ => ∃ (c : Addr) (n : Int), vs = [.ref c] ∧ SqT K H c [.str "mark", .int n] ∧ 0 ≤ n ∧ n < 4294967296 ∧ Q (.bl true) H
theorem ok_fits_page (T : Txt w K mg) : FnOk P w K mg base CX0 2 T.f_fits_page T.d_fits_page ["content"] (sp_fits_page K) := by
  refine T.F_fits_page.ok sc_fits_page (fun vs H Q E h => ?_) (fun cdv A outer s H vs Q E hr h => ?_)
  · obtain ⟨_, _, rfl, _⟩ := h; rfl
  · obtain ⟨c, n, rfl, hT, h0, h1, q⟩ := h
    refine ⟨_, (pss_cons (ps_if (pt_cmpR op_eq (pe_ix (kIxT (K := K)) (pv 0) pe_int (fun _ _ => rfl)) pe_str (nomark _))
        pss_never
        pss_nil)
      (pss_cons (ps_if (pt_cmpR op_eq (pe_ix (kIxT (K := K)) (pv 0) pe_int (fun _ _ => rfl)) pe_str (nomark _))
        pss_never
        pss_nil)
      (pss_cons (ps_if (pt_cmpR op_eq (pe_ix (kIxT (K := K)) (pv 0) pe_int (fun _ _ => rfl)) pe_str (nomark _))
        pss_never
        pss_nil)
      (pss_one (ps_ret (pe_call (ok_is_number T) hr (by rfl) T.g_is_number T.F_is_number.kp T.b_is_number .nil pass0 (pa_cons (pe_ix (kIxT (K := K)) (pv 0) pe_int (fun _ _ => rfl)) pa_nil))))))), ?_⟩
    walk_at "go"
    refine ite_no (by decide) ?_
    walk_at "go"
    refine ite_no (by decide) ?_
    walk_at "go"
    refine ite_no (by decide) ?_
    walk_at "go"
    exact ⟨n, rfl, h0, h1, q⟩
def sp_content_body (K : PySem.W.Frag) : Sp := fun vs H Q _ => ∃ (c : Addr) (n : Int), vs = [.ref c] ∧ SqT K H c [.str "mark", .int n] ∧ 0 ≤ n ∧ n < 4294967296 ∧
  ∀ H' p, Same H H' → H p = none → H' p = some (.lst ((row 4 n).map V.int)) → Q (.ref p) H'
theorem ok_content_body (T : Txt w K mg) : FnOk P w K mg base CX0 3 T.f_content_body T.d_content_body ["content"] (sp_content_body K) := by
  refine T.F_content_body.ok sc_content_body (fun vs H Q E h => ?_) (fun cdv A outer s H vs Q E hr h => ?_)
  · obtain ⟨_, _, rfl, _⟩ := h; rfl
  · obtain ⟨c, n, rfl, hT, h0, h1, q⟩ := h
    refine ⟨_, (pss_cons (ps_if (pt_not (pt_val (pe_call (ok_fits_page T) hr (by rfl) T.g_fits_page T.F_fits_page.kp T.b_fits_page .nil pass0 (pa_cons (pv 0) pa_nil))))
        pss_never
        pss_nil)
      (pss_cons (ps_if (pt_cmpR op_eq (pe_ix (kIxT (K := K)) (pv 0) pe_int (fun _ _ => rfl)) pe_str (nomark _))
        pss_never
        pss_nil)
      (pss_cons (ps_if (pt_cmpR op_eq (pe_ix (kIxT (K := K)) (pv 0) pe_int (fun _ _ => rfl)) pe_str (nomark _))
        pss_never
        pss_nil)
      (pss_cons (ps_if (pt_cmpR op_eq (pe_ix (kIxT (K := K)) (pv 0) pe_int (fun _ _ => rfl)) pe_str (nomark _))
        pss_never
        pss_nil)
      (pss_one (ps_ret (pe_call (ok_number_row T) (hr.mono (by decide)) (by rfl) T.g_number_row T.F_number_row.kp T.b_number_row .nil pass0 (pa_cons (pe_ix (kIxT (K := K)) (pv 0) pe_int (fun _ _ => rfl)) (pa_cons pe_int pa_nil))))))))), ?_⟩
    walk_at "go"
    refine ⟨c, n, rfl, hT, h0, h1, ?_⟩
    walk_at "go"
    refine ite_no rfl ?_
    walk_at "go"
    refine ite_no (by decide) ?_
    walk_at "go"
    refine ite_no (by decide) ?_
    walk_at "go"
    refine ite_no (by decide) ?_
    walk_at "go"
    exact ⟨n, 4, rfl, by decide, q⟩
theorem same_tq {K : PySem.W.Frag} {H0 H : Hp} {a : Addr} {xs : List V} (k : Same H0 H) (h : SqT K H0 a xs) : SqT K H a xs := by
  rcases h with (h | ⟨o, h⟩) | h
  · exact .inl (.inl (k _ _ h))
  · exact .inl (.inr ⟨o, k _ _ h⟩)
  · exact .inr h
def sp_write_page (K : PySem.W.Frag) : Sp := fun vs H Q _ => ∃ (c : Addr) (n : Int), vs = [.ref c] ∧ SqT K H c [.str "mark", .int n] ∧ 0 ≤ n ∧ n < 4294967296 ∧
  ∀ (a b c d : Int) H' p, Same H H' → H p = none → H' p = some (.lst (([4, a, b, c, d] ++ row 4 n ++ List.replicate 503 0).map V.int)) → Q (.ref p) H'
set_option maxHeartbeats 0 in
theorem ok_write_page (T : Txt w K mg) : FnOk P w K mg base CX0 4 T.f_write_page T.d_write_page ["content"] (sp_write_page K) := by
  refine T.F_write_page.ok sc_write_page (fun vs H Q E h => ?_) (fun cdv A outer s H vs Q E hr h => ?_)
  · obtain ⟨_, _, rfl, _⟩ := h; rfl
  · obtain ⟨c, n, rfl, hT, h0, h1, q⟩ := h
    refine ⟨_, (pss_cons (ps_set (i := 1) sc_write_page.nd rfl (by first | exact Or.inl rfl | exact Or.inr rfl) (pe_call (ok_content_body T) hr (by rfl) T.g_content_body T.F_content_body.kp T.b_content_body .nil pass0 (pa_cons (pv 0) pa_nil)))
      (pss_cons (ps_set (i := 2) sc_write_page.nd rfl (by first | exact Or.inl rfl | exact Or.inr rfl) (pe_op op_cat (pe_op op_cat (pe_lst (pa_cons (pe_ix (kIxD (K := K) (w := w)) (pe_glob (v := .ref T.a_KINDS) (by rfl) T.v_KINDS rfl) (pe_ix (kIxT (K := K)) (pv 0) pe_int (fun _ _ => rfl)) (fun _ _ => rfl)) (pa_cons pe_int (pa_cons pe_int (pa_cons pe_int (pa_cons pe_int pa_nil)))))) (pv 1)) (pe_op op_rep (pe_lst (pa_cons pe_int pa_nil)) (pe_op op_sub (pe_op op_sub (pe_glob (v := .int 512) (by rfl) T.v_PAGE_SIZE ⟨_, rfl⟩) (pe_glob (v := .int 5) (by rfl) T.v_HEAD_SIZE ⟨_, rfl⟩)) (pe_callB (kLen (K := K)) (by rfl) T.m_len (by decide +kernel) (pa_cons (pv 1) pa_nil))))))
      (pss_cons (ps_asg (pe_call (ok_page_sums T) (hr.mono (by decide)) (by rfl) T.g_page_sums T.F_page_sums.kp T.b_page_sums .nil pass0 (pa_cons (pv 2) pa_nil)) (pg_tup rfl (pgs_cons (pg_name (i := 3) sc_write_page.nd rfl (by first | exact Or.inl rfl | exact Or.inr rfl)) (pgs_cons (pg_name (i := 4) sc_write_page.nd rfl (by first | exact Or.inl rfl | exact Or.inr rfl)) pgs_nil))))
      (pss_cons (ps_asg (pe_call (ok_number_row T) (hr.mono (by decide)) (by rfl) T.g_number_row T.F_number_row.kp T.b_number_row .nil pass0 (pa_cons (pv 3) (pa_cons pe_int pa_nil))) (pg_slc (pv 2) pe_int pe_int))
      (pss_cons (ps_asg (pe_call (ok_number_row T) (hr.mono (by decide)) (by rfl) T.g_number_row T.F_number_row.kp T.b_number_row .nil pass0 (pa_cons (pv 4) (pa_cons pe_int pa_nil))) (pg_slc (pv 2) pe_int pe_int))
      (pss_one (ps_ret (pv 2)))))))), ?_⟩
    walk_at "go"
    refine ⟨c, n, rfl, hT, h0, h1, fun H1 p1 sm hn hp => ?_⟩
    have kk := (Kn.nil (H := H)).ret hn sm hp
    have hT := same_tq sm hT
    walk_at "go"
    refine s_kd T.e_KINDS_mark ?_
    walk_at "go"
    rename_i p2 H2 k2
    refine s_cat k2 (k2.get 0 rfl) (k2.get 1 rfl) (by rw [List.length_map, row_len]; exact small_len rfl) (fun p3 H3 k3 => ?_)
    clear k2
    walk_at "go"
    rename_i p4 H4 k4
    rw [List.length_map, row_len]
    refine s_rep k4 (k4.get 0 rfl) (by decide) (by decide) (small_len rfl) (fun p5 H5 k5 => ?_)
    clear k4
    rw [show (512 - 5 - ((4 : Nat) : Int)) = 503 by decide, rep1 (n := 503) (z := 0)] at k5
    refine s_cat k5 (k5.get 2 rfl) (k5.get 0 rfl) (by rw [List.length_append, List.length_map, List.length_map, row_len, List.length_replicate]; exact small_len rfl) (fun p6 H6 k6 => ?_)
    clear k5
    rw [show [V.int 4, V.int 0, V.int 0, V.int 0, V.int 0] ++ (row 4 n).map V.int ++ (List.replicate (Int.toNat 503) 0).map V.int = ([4, 0, 0, 0, 0] ++ row 4 n ++ List.replicate 503 0).map V.int by rw [List.map_append, List.map_append]; rfl] at k6
    have kk : Kn none H [(p6, .lst (([4, 0, 0, 0, 0] ++ row 4 n ++ List.replicate 503 0).map V.int))] H6 := k6.sub (by walk_at "sub")
    clear k6
    walk_at "go"
    refine ⟨p6, _, rfl, kn_sq kk 0 rfl, by rw [List.length_append, List.length_append, row_len, List.length_replicate]; rfl, fun H7 p7 sm7 hn7 hp7 => ?_⟩
    have kk := kk.ret hn7 sm7 hp7
    generalize S1 ([4, 0, 0, 0, 0] ++ row 4 n ++ List.replicate 503 0) % 65521 = f at kk
    generalize S2 ([4, 0, 0, 0, 0] ++ row 4 n ++ List.replicate 503 0) % 65521 = g at kk
    clear hp7
    walk_at "go"
    refine ⟨f, 2, rfl, by decide, fun H8 p8 sm8 hn8 hp8 => ?_⟩
    have k8 := kk.ret hn8 sm8 hp8
    clear kk
    walk_at "go"
    refine a_slc k8 2 0 rfl rfl (by decide) (i := 1) (j := 3) rfl rfl (by decide) (by rw [List.length_map, List.length_append]; show 3 ≤ _; simp) (by rw [List.length_map, List.length_map, row_len, List.length_append, List.length_append, row_len, List.length_replicate]; exact small_len rfl) (fun H9 k9 => ?_)
    clear k8
    walk_at "go"
    refine ⟨g, 2, rfl, by decide, fun H10 p10 sm10 hn10 hp10 => ?_⟩
    have k10 := k9.ret hn10 sm10 hp10
    clear k9
    walk_at "go"
    have e9 : List.take 1 (List.map V.int ([4, 0, 0, 0, 0] ++ row 4 n ++ List.replicate 503 0)) ++ List.map V.int (row 2 f) ++ List.drop 3 (List.map V.int ([4, 0, 0, 0, 0] ++ row 4 n ++ List.replicate 503 0))
      = ([4, f / 256 % 256, f % 256, 0, 0] ++ row 4 n ++ List.replicate 503 0).map V.int := rfl
    rw [e9] at k10
    refine a_slc k10 3 0 rfl rfl (by decide) (i := 3) (j := 5) rfl rfl (by decide) (by rw [List.length_map, List.length_append]; show 5 ≤ _; simp) (by rw [List.length_map, List.length_map, row_len, List.length_append, List.length_append, row_len, List.length_replicate]; exact small_len rfl) (fun H11 k11 => ?_)
    clear k10
    walk_at "go"
    have e11 : List.take 3 (List.map V.int ([4, f / 256 % 256, f % 256, 0, 0] ++ row 4 n ++ List.replicate 503 0)) ++ List.map V.int (row 2 g) ++ List.drop 5 (List.map V.int ([4, f / 256 % 256, f % 256, 0, 0] ++ row 4 n ++ List.replicate 503 0))
      = ([4, f / 256 % 256, f % 256, g / 256 % 256, g % 256] ++ row 4 n ++ List.replicate 503 0).map V.int := rfl
    rw [e11] at k11
    exact q _ _ _ _ H11 p6 k11.toSame (k11.nw_at 3 rfl) (k11.get 3 rfl)
end

section
variable {K : PySem.W.Frag} {H H0 : Hp} {Q : VK} {E : XK} {d : Option Addr} {a : Addr} {G : List (Addr × HO)} {n : Int} {m : Nat}
theorem u_row (k : Kn d H0 G H) (hm : m ≤ 100) (q : ∀ p H', Kn d H0 ((p, .lst ((row m n).map V.int)) :: G) H' → Q (.ref p) H') : sp_number_row K [.int n, .int m] H Q E :=
  ⟨n, m, rfl, hm, fun H' p s h e => q p H' (k.ret h s e)⟩
theorem u_num (k : Kn d H0 G H) {ns : List Int} (h : SqL K H a (ns.map V.int)) (hl : ns.length ≤ 1000) (q : ∀ H', Kn d H0 G H' → Q (.int (rn ns)) H') : sp_row_number K [.ref a] H Q E :=
  ⟨a, ns, rfl, h, hl, fun H' s => q H' (k.same s)⟩
theorem mark_cut (n a b c d : Int) : cutV (([4, a, b, c, d] ++ row 4 n ++ List.replicate 503 0).map V.int) (some 5) (some 9) = (row 4 n).map V.int := by
  have h : (([4, a, b, c, d] ++ row 4 n ++ List.replicate 503 0).map V.int).length = 512 := by rw [List.length_map, List.length_append, List.length_append, row_len, List.length_replicate]; rfl
  have := cutIJ (([4, a, b, c, d] ++ row 4 n ++ List.replicate 503 0).map V.int) 5 9 (by rw [h]; decide) (by rw [h]; decide)
  exact this.trans rfl
theorem mark_rest (n a b c d : Int) : cutV (([4, a, b, c, d] ++ row 4 n ++ List.replicate 503 0).map V.int) (some 9) none = (List.replicate 503 (0 : Int)).map V.int := by
  have h : (([4, a, b, c, d] ++ row 4 n ++ List.replicate 503 0).map V.int).length = 512 := by rw [List.length_map, List.length_append, List.length_append, row_len, List.length_replicate]; rfl
  have := cutI (([4, a, b, c, d] ++ row 4 n ++ List.replicate 503 0).map V.int) 9 (by rw [h]; decide)
  exact this.trans rfl
end
section
variable {P : Program} {w : World} {K : PySem.W.Frag} {mg : Str → Option Value} {base : Heap}
local macro_rules | `(tactic| walk_at "nz") => `(tactic| (refine s_sig (σ' := [_, _, _, _, _, _, _, _, _, _, _]) rfl ?_))
local macro_rules | `(tactic| walk_at "len") => `(tactic| (simp only [List.length_append, List.length_map, List.length_replicate, List.length_cons, List.length_nil, row_len]; omega))
local macro_rules | `(tactic| walk_at "go1") => `(tactic| (first
  | ((rename Kn _ _ _ _ => kk); (with_reducible refine' u_row kk ?gA ?_); (case gA => first | omega | decide); clear kk; intro _ _ kk)
  | ((rename Kn _ _ _ _ => kk); (with_reducible refine' u_num kk ?gA ?gB ?_); (case gA => walk_at "sq"); (case gB => walk_at "len"); clear kk; intro _ kk)))
def sp_law (K : PySem.W.Frag) : Sp := fun vs H Q _ => ∃ (a : Addr) (ns : List Int), vs = [.ref a] ∧ SqL K H a (ns.map V.int) ∧ ns.length ≤ 63 ∧ ∀ H', Q (.bl true) H'
set_option maxHeartbeats 0 in
theorem ok_law (T : Txt w K mg) : FnOk P w K mg base CX0 5 T.f_law T.d_law ["script"] (sp_law K) := by
  refine T.F_law.ok sc_law (fun vs H Q E h => ?_) (fun cdv A outer s H vs Q E hr h => ?_)
  · obtain ⟨_, _, rfl, _⟩ := h; rfl
  · obtain ⟨a, scr, rfl, hS, hns, q⟩ := h
    refine ⟨_, (pss_cons (ps_set (i := 1) sc_law.nd rfl (by first | exact Or.inl rfl | exact Or.inr rfl) (pe_call (ok_u_law_deck T) (hr.mono (by decide)) (by rfl) T.g_u_law_deck T.F_u_law_deck.kp T.b_u_law_deck .nil pass0 (pa_cons (pv 0) (pa_cons pe_int (pa_cons pe_int pa_nil)))))
      (pss_cons (ps_for PassesOwn.never rfl (pi_range1 (by rfl) T.m_range (pa_cons pe_int pa_nil)) (pg_name (i := 2) sc_law.nd rfl (by first | exact Or.inl rfl | exact Or.inr rfl))
        (pss_cons (ps_set (i := 3) sc_law.nd rfl (by first | exact Or.inl rfl | exact Or.inr rfl) (pe_op op_add pe_int (pe_call (ok_u_law_take T) (hr.mono (by decide)) (by rfl) T.g_u_law_take T.F_u_law_take.kp T.b_u_law_take .nil pass0 (pa_cons (pv 1) (pa_cons pe_int pa_nil)))))
        (pss_cons (ps_set (i := 4) sc_law.nd rfl (by first | exact Or.inl rfl | exact Or.inr rfl) (pe_ifExp (pt_cmpR op_eq (pv 3) pe_int (nomark _)) (pe_op op_pow pe_int pe_int) (pe_ifExp (pt_cmpR op_eq (pv 3) pe_int (nomark _)) (pe_op op_pow pe_int pe_int) (pe_ifExp (pt_cmpR op_eq (pv 3) pe_int (nomark _)) (pe_op op_pow pe_int pe_int) (pe_op op_pow pe_int pe_int)))))
        (pss_cons (ps_set (i := 5) sc_law.nd rfl (by first | exact Or.inl rfl | exact Or.inr rfl) (pe_call (ok_u_law_pick T) (hr.mono (by decide)) (by rfl) T.g_u_law_pick T.F_u_law_pick.kp T.b_u_law_pick .nil pass0 (pa_cons (pv 1) (pa_cons (pe_lst (pa_cons pe_int (pa_cons (pe_op op_sub (pv 4) pe_int) (pa_cons (pe_op op_fdiv (pv 4) pe_int) (pa_cons (pe_op op_mod (pe_callTy cInt (by rfl) T.m_int (by decide +kernel) (pa_cons (pe_op op_add (pe_op op_mul (pe_call (ok_u_law_take T) (hr.mono (by decide)) (by rfl) T.g_u_law_take T.F_u_law_take.kp T.b_u_law_take .nil pass0 (pa_cons (pv 1) (pa_cons pe_int pa_nil))) pe_int) (pe_call (ok_u_law_take T) (hr.mono (by decide)) (by rfl) T.g_u_law_take T.F_u_law_take.kp T.b_u_law_take .nil pass0 (pa_cons (pv 1) (pa_cons pe_int pa_nil)))) pa_nil)) (pv 4)) pa_nil))))) pa_nil))))
        (pss_cons (ps_set (i := 6) sc_law.nd rfl (by first | exact Or.inl rfl | exact Or.inr rfl) (pe_call (ok_number_row T) (hr.mono (by decide)) (by rfl) T.g_number_row T.F_number_row.kp T.b_number_row .nil pass0 (pa_cons (pv 5) (pa_cons (pv 3) pa_nil))))
        (pss_cons (ps_if (PW.pt (pw_or (pt_cmpR op_ne (pe_callB (kLen (K := K)) (by rfl) T.m_len (by decide +kernel) (pa_cons (pv 6) pa_nil)) (pv 3) (nomark _)) (pw_or (pt_cmpR op_ne (pe_call (ok_row_number T) (hr.mono (by decide)) (by rfl) T.g_row_number T.F_row_number.kp T.b_row_number .nil pass0 (pa_cons (pv 6) pa_nil)) (pv 5) (nomark _)) (pw_or1 (pt_cmpR (kNeD (K := K) hr.units) (pe_lcK (own := [("octet", 7)]) (vs := [7]) (g := gName 7) rfl (by rfl) sc_law.nd (pi_listK (K := K) (pv 6)) (blkOk_by (own := [("octet", 7)]) (N := N_law) (sc := defScope s_law) (by decide +kernel)) (fun _ _ _ _ _ => pg_name (i := 7) sc_law.nd rfl (by first | exact Or.inl rfl | exact Or.inr rfl) (by first | exact Or.inl rfl | exact Or.inr rfl)) (fun _ _ _ _ _ => pts_one (pt_not (pt_chain op_le op_lt pe_int (pv 7) pe_int))) (fun _ _ _ _ _ => (pv 7))) (pe_lst pa_nil) (nomark _))))))
          (pss_one (ps_ret pe_bl))
          pss_nil)
        (pss_cons (ps_if (PW.pt (pw_or (pt_cmpR op_ne (pe_call (ok_row_number T) (hr.mono (by decide)) (by rfl) T.g_row_number T.F_row_number.kp T.b_row_number .nil pass0 (pa_cons (pe_op op_cat (pe_op op_rep (pe_lst (pa_cons pe_int pa_nil)) (pe_call (ok_u_law_take T) (hr.mono (by decide)) (by rfl) T.g_u_law_take T.F_u_law_take.kp T.b_u_law_take .nil pass0 (pa_cons (pv 1) (pa_cons pe_int pa_nil)))) (pv 6)) pa_nil)) (pv 5) (nomark _)) (pw_or1 (pt_cmpR op_ne (pe_call (ok_row_number T) (hr.mono (by decide)) (by rfl) T.g_row_number T.F_row_number.kp T.b_row_number .nil pass0 (pa_cons (pe_op op_cat (pv 6) (pe_lst (pa_cons pe_int pa_nil))) pa_nil)) (pe_op op_mul pe_int (pv 5)) (nomark _)))))
          (pss_one (ps_ret pe_bl))
          pss_nil)
        (pss_cons (ps_if (PW.pt (pw_and (pt_cmpR op_lt (pv 3) pe_int (nomark _)) (pw_and1 (PW.pt (pw_or (pt_cmpR (kNeD (K := K) hr.units) (pe_call (ok_number_row T) (hr.mono (by decide)) (by rfl) T.g_number_row T.F_number_row.kp T.b_number_row .nil pass0 (pa_cons (pv 5) (pa_cons (pe_op op_add (pv 3) pe_int) pa_nil))) (pe_op op_cat (pe_lst (pa_cons pe_int pa_nil)) (pv 6)) (nomark _)) (pw_or1 (pt_cmpR (kNeD (K := K) hr.units) (pe_call (ok_number_row T) (hr.mono (by decide)) (by rfl) T.g_number_row T.F_number_row.kp T.b_number_row .nil pass0 (pa_cons (pe_op op_add (pe_op op_mul (pv 5) pe_int) pe_int) (pa_cons (pe_op op_add (pv 3) pe_int) pa_nil))) (pe_op op_cat (pv 6) (pe_lst (pa_cons pe_int pa_nil))) (nomark _))))))))
          (pss_one (ps_ret pe_bl))
          pss_nil)
        (pss_cons (ps_if (PW.pt (pw_and (pt_cmpR op_gt (pe_op op_fdiv (pv 5) pe_int) pe_int (nomark _)) (pw_and1 (pt_cmpR (kNeD (K := K) hr.units) (pe_call (ok_number_row T) (hr.mono (by decide)) (by rfl) T.g_number_row T.F_number_row.kp T.b_number_row .nil pass0 (pa_cons (pe_op op_fdiv (pv 5) pe_int) (pa_cons (pe_ifExp (pt_cmpR op_gt (pv 3) pe_int (nomark _)) (pe_op op_sub (pv 3) pe_int) pe_int) pa_nil))) (pe_slice (kSlL (K := K)) (pv 6) po_none (po_some (pe_un un_neg pe_int))) (nomark _)))))
          (pss_one (ps_ret pe_bl))
          pss_nil)
        (pss_cons (ps_set (i := 8) sc_law.nd rfl (by first | exact Or.inl rfl | exact Or.inr rfl) (pe_call (ok_u_law_pick T) (hr.mono (by decide)) (by rfl) T.g_u_law_pick T.F_u_law_pick.kp T.b_u_law_pick .nil pass0 (pa_cons (pv 1) (pa_cons (pe_lst (pa_cons (pv 5) (pa_cons (pe_op op_sub (pe_op op_sub (pv 4) pe_int) (pv 5)) (pa_cons (pe_op op_mod (pe_callTy cInt (by rfl) T.m_int (by decide +kernel) (pa_cons (pe_op op_add (pe_op op_mul (pv 5) pe_int) pe_int) pa_nil)) (pv 4)) pa_nil)))) pa_nil))))
        (pss_cons (ps_set (i := 9) sc_law.nd rfl (by first | exact Or.inl rfl | exact Or.inr rfl) (pe_call (ok_number_row T) (hr.mono (by decide)) (by rfl) T.g_number_row T.F_number_row.kp T.b_number_row .nil pass0 (pa_cons (pv 8) (pa_cons (pv 3) pa_nil))))
        (pss_cons (ps_if (PW.pt (pw_or (pt_cmpR op_ne (pe_cmpR (kLtL (K := K) hr.units0) (pv 6) (pv 9) (nomark _)) (pe_cmpR op_lt (pv 5) (pv 8) (nomark _)) (nomark _)) (pw_or1 (pt_cmpR op_ne (pe_cmpR (kEqD (K := K) hr.units) (pv 6) (pv 9) (nomark _)) (pe_cmpR op_eq (pv 5) (pv 8) (nomark _)) (nomark _)))))
          (pss_one (ps_ret pe_bl))
          pss_nil)
        (pss_cons (ps_if (PW.pt (pw_and (pt_cmpR op_le (pv 3) pe_int (nomark _)) (pw_and1 (pt_cmpR op_ne (pe_call (ok_row_number T) (hr.mono (by decide)) (by rfl) T.g_row_number T.F_row_number.kp T.b_row_number .nil pass0 (pa_cons (pe_op op_cat (pv 6) (pv 9)) pa_nil)) (pe_op op_add (pe_op op_mul (pv 5) (pv 4)) (pv 8)) (nomark _)))))
          (pss_one (ps_ret pe_bl))
          pss_nil)
        (pss_cons (ps_if (PW.pt (pw_and (pt_cmpR op_lt (pe_op op_add (pv 5) (pv 8)) (pv 4) (nomark _)) (pw_and1 (pt_cmpR op_ne (pe_call (ok_row_number T) (hr.mono (by decide)) (by rfl) T.g_row_number T.F_row_number.kp T.b_row_number .nil pass0 (pa_cons (pe_call (ok_number_row T) (hr.mono (by decide)) (by rfl) T.g_number_row T.F_number_row.kp T.b_number_row .nil pass0 (pa_cons (pe_op op_add (pv 5) (pv 8)) (pa_cons (pv 3) pa_nil))) pa_nil)) (pe_op op_add (pe_call (ok_row_number T) (hr.mono (by decide)) (by rfl) T.g_row_number T.F_row_number.kp T.b_row_number .nil pass0 (pa_cons (pv 6) pa_nil)) (pe_call (ok_row_number T) (hr.mono (by decide)) (by rfl) T.g_row_number T.F_row_number.kp T.b_row_number .nil pass0 (pa_cons (pv 9) pa_nil))) (nomark _)))))
          (pss_one (ps_ret pe_bl))
          pss_nil)
        (pss_cons (ps_if (pt_cmpR (kNeD (K := K) hr.units) (pe_call (ok_number_row T) (hr.mono (by decide)) (by rfl) T.g_number_row T.F_number_row.kp T.b_number_row .nil pass0 (pa_cons (pe_op op_sub (pe_op op_sub (pv 4) pe_int) (pv 5)) (pa_cons (pv 3) pa_nil))) (pe_lcK (own := [("octet", 7)]) (vs := [7]) (g := gName 7) (tt := tYes) rfl (by rfl) sc_law.nd (pi_listK (K := K) (pv 6)) (blkOk_by (own := [("octet", 7)]) (N := N_law) (sc := defScope s_law) (by decide +kernel)) (fun _ _ _ _ _ => pg_name (i := 7) sc_law.nd rfl (by first | exact Or.inl rfl | exact Or.inr rfl) (by first | exact Or.inl rfl | exact Or.inr rfl)) (fun _ _ _ _ _ => pts_nil) (fun _ _ _ _ _ => (pe_op op_sub pe_int (pv 7)))) (nomark _))
          (pss_one (ps_ret pe_bl))
          pss_nil)
        (pss_cons (ps_set (i := 10) sc_law.nd rfl (by first | exact Or.inl rfl | exact Or.inr rfl) (pe_call (ok_write_page T) hr (by rfl) T.g_write_page T.F_write_page.kp T.b_write_page .nil pass0 (pa_cons (pe_tup (pa_cons pe_str (pa_cons (pv 5) pa_nil))) pa_nil)))
        (pss_one (ps_if (PW.pt (pw_or (pt_cmpR (kNeD (K := K) hr.units) (pe_slice (kSlL (K := K)) (pv 10) (po_some pe_int) (po_some pe_int)) (pe_call (ok_number_row T) (hr.mono (by decide)) (by rfl) T.g_number_row T.F_number_row.kp T.b_number_row .nil pass0 (pa_cons (pv 5) (pa_cons pe_int pa_nil))) (nomark _)) (pw_or1 (pt_cmpR (kNeD (K := K) hr.units) (pe_slice (kSlL (K := K)) (pv 10) (po_some pe_int) po_none) (pe_op op_rep (pe_lst (pa_cons pe_int pa_nil)) pe_int) (nomark _)))))
          (pss_one (ps_ret pe_bl))
          pss_nil))))))))))))))))))
      (pss_one (ps_ret (pe_and (pe_cmpR op_eq (pe_call (ok_row_number T) (hr.mono (by decide)) (by rfl) T.g_row_number T.F_row_number.kp T.b_row_number .nil pass0 (pa_cons (pe_lst pa_nil) pa_nil)) pe_int (nomark _)) (pe_one (pe_cmpR (kEqD (K := K) hr.units) (pe_call (ok_number_row T) (hr.mono (by decide)) (by rfl) T.g_number_row T.F_number_row.kp T.b_number_row .nil pass0 (pa_cons pe_int (pa_cons pe_int pa_nil))) (pe_lst (pa_cons pe_int (pa_cons pe_int (pa_cons pe_int (pa_cons pe_int pa_nil))))) (nomark _)))))))), ?_⟩
    walk_at "gd"
    refine ⟨a, scr, 200, 14, rfl, hS, hns, by decide, by decide, fun H1 d sm hn hk => ?_⟩
    have kk := Kn.deck hk
    walk_at "gd"
    refine n_for (by decide) (by decide) (fun i σ H' => ∃ (y2 y3 y4 y5 y6 y7 y8 y9 y10 : Option V), σ = [some (.ref a), some (.ref d), y2, y3, y4, y5, y6, y7, y8, y9, y10] ∧ Kn (some d) H1 [] H')
      ⟨_, _, _, _, _, _, _, _, _, rfl, kk⟩ (fun i σ H' hi hp => ?_) (fun σ H' hp => ?_)
    · obtain ⟨y2, y3, y4, y5, y6, y7, y8, y9, y10, rfl, kk⟩ := hp
      walk_at "gd"
      rename_i w0 H2 w0a w0b kk
      obtain ⟨m, hm⟩ : ∃ m : Nat, 1 + w0 = (m : Int) := ⟨(1 + w0).toNat, (Int.toNat_of_nonneg (by omega)).symm⟩
      rw [hm]
      have m1 : 1 ≤ m := by omega
      have m4 : m ≤ 4 := by omega
      clear hm w0a w0b
      -- most
      refine s_ifJ (R := fun v H' => H' = H2 ∧ v = .int (B m)) (fun Q' q' => ?_) (fun v H' hv => ?_)
      · refine s_if ?_
        walk_at "gd"
        refine ite_d (fun h => ?_) (fun h => ?_)
        · walk_at "gd"
          exact q' _ _ ⟨rfl, by rw [show m = 1 by omega]; rfl⟩
        · refine s_if ?_
          walk_at "gd"
          refine ite_d (fun h => ?_) (fun h => ?_)
          · walk_at "gd"
            exact q' _ _ ⟨rfl, by rw [show m = 2 by omega]; rfl⟩
          · refine s_if ?_
            walk_at "gd"
            refine ite_d (fun h => ?_) (fun h => ?_)
            · walk_at "gd"
              exact q' _ _ ⟨rfl, by rw [show m = 3 by omega]; rfl⟩
            · walk_at "gd"
              exact q' _ _ ⟨rfl, by rw [show m = 4 by omega]; rfl⟩
      obtain ⟨rfl, rfl⟩ := hv
      have B0 := B_pos m
      have B4 : B m ≤ 4294967296 := by
        match m, m1, m4 with
        | 1, _, _ => decide
        | 2, _, _ => decide
        | 3, _, _ => decide
        | 4, _, _ => decide
      obtain ⟨M, hM⟩ : ∃ M, M = B m := ⟨_, rfl⟩
      rw [← hM] at B0 B4 ⊢
      walk_at "gd"
      rename_i r1 _ r1a r1b r2 _ r2a r2b _ _ x H3 hx kk
      obtain ⟨n, rfl, n0, n1⟩ : ∃ n : Int, x = .int n ∧ 0 ≤ n ∧ n < M := by
        simp only [List.mem_cons, List.not_mem_nil, or_false] at hx
        rcases hx with rfl | rfl | rfl | rfl
        · exact ⟨_, rfl, by omega, by omega⟩
        · exact ⟨_, rfl, by omega, by omega⟩
        · exact ⟨_, rfl, by omega, by omega⟩
        · exact ⟨_, rfl, Int.emod_nonneg _ (by omega), Int.emod_lt_of_pos _ B0⟩
      clear hx
      have n1' : n < B m := hM ▸ n1
      have hrl := row_len m n
      have hrn := rn_row m n n0 n1'
      replace kk := kk.none_
      refine u_row kk (by omega) (fun rp H4 k4 => ?_)
      clear kk
      -- its length, its number, its octets
      walk_at "gd"
      refine ite_no (by rw [List.length_map, hrl]; simp) ?_
      walk_at "gd"
      rename Kn _ _ _ _ => k5
      refine ite_no (by rw [hrn]; simp) ?_
      walk_at "gd"
      refine n_lcL (kn_sq k5 0 rfl) (by rw [List.length_map]; omega) k5 (fun D acc H2 k => kn_sq k 1 rfl) (fun i acc => acc = []) rfl (fun i x acc D H2 hx ra ka Q' q' => ?_) (fun i acc e => by rw [e]; exact Nat.zero_le _) (fun acc p6 H6 ra k6 => ?_)
      · obtain ⟨z, hz, rfl⟩ : ∃ z, (row m n)[i]? = some z ∧ V.int z = x := by
          rw [List.getElem?_map] at hx
          cases e : (row m n)[i]? with
          | none => rw [e] at hx; cases hx
          | some z => rw [e] at hx; exact ⟨z, rfl, Option.some.inj hx⟩
        have hz' := row_oct m n z (List.mem_of_getElem? hz)
        walk_at "gd"
        refine ite_yes (decide_eq_true hz'.1) ?_
        walk_at "gd"
        rw [decide_eq_true hz'.2]
        exact q' _ _ ka (fun _ => ra) (fun z => nomatch z)
      subst ra
      clear k5
      walk_at "gd"
      rename_i p7 H7 k7
      refine s_neL (ns := []) (ms := []) (kn_sq k7 1 rfl) (kn_sq k7 0 rfl) ?_
      walk_at "gd"
      refine ite_no (by decide) ?_
      replace k7 := k7.forget 2
      -- zeros ahead, a zero behind
      walk_at "gd"
      rename_i p8 H8 z1 H9 z1a z1b k9
      refine s_rep k9 (k9.get 0 rfl) z1a (by omega) (small_len rfl) (fun p10 H10 k10 => ?_)
      clear k9
      rw [rep1 (n := z1) (z := 0)] at k10
      walk_at "gd"
      rename Kn _ _ _ _ => k11
      rw [← List.map_append] at k11
      walk_at "gd"
      rename Kn _ _ _ _ => k12
      rw [rn_zeros, hrn]
      refine ite_no (by simp) ?_
      replace k12 := k12.forget 3
      walk_at "gd"
      rename Kn _ _ _ _ => k14
      rw [show (row m n).map V.int ++ [V.int 0] = (row m n ++ [0]).map V.int by rw [List.map_append]; rfl] at k14
      walk_at "gd"
      rename Kn _ _ _ _ => k15
      rw [rn_snoc, hrn, Int.add_zero]
      refine ite_no (by simp) ?_
      replace k15 := k15.forget 2
      -- wider rows
      have kk : Kn (some d) H1 [(rp, .lst ((row m n).map V.int))] _ := k15
      clear k15
      walk_at "st"
      refine s_ifF (Kn (some d) H1 [(rp, .lst ((row m n).map V.int))]) (fun QB qb => ?_) (fun H16 k16 => ?_)
      · walk_at "gd"
        refine ite_d (fun h => ?_) (fun h => qb _ kk)
        walk_at "gd"
        rw [show (m : Int) + 1 = ((m + 1 : Nat) : Int) from rfl]
        walk_at "gd"
        rename Kn _ _ _ _ => k1
        rw [show [V.int 0] ++ (row m n).map V.int = (0 :: row m n).map V.int from rfl] at k1
        walk_at "gd"
        refine ite_no (by rw [row_wide m n n0 n1']; simp) ?_
        walk_at "gd"
        rw [show (m : Int) + 1 = ((m + 1 : Nat) : Int) from rfl]
        walk_at "gd"
        rename Kn _ _ _ _ => k2
        rw [show (row m n).map V.int ++ [V.int 7] = (row m n ++ [7]).map V.int by rw [List.map_append]; rfl] at k2
        walk_at "gd"
        rw [row_seven, decide_eq_true rfl]
        exact qb _ (k2.sub (by walk_at "sub"))
      clear kk
      -- a row cut
      walk_at "st"
      refine s_ifF (Kn (some d) H1 [(rp, .lst ((row m n).map V.int))]) (fun QB qb => ?_) (fun H17 k17 => ?_)
      · walk_at "gd"
        refine ite_d (fun h => ?_) (fun h => qb _ k16)
        have hm2 : 1 < m := by
          by_cases z : m = 1
          · rw [z] at n1'
            have : n < 256 := n1'
            omega
          · omega
        walk_at "gd"
        refine s_if ?_
        walk_at "gd"
        refine ite_yes (decide_eq_true (by omega)) ?_
        walk_at "gd"
        rw [show (m : Int) - 1 = ((m - 1 : Nat) : Int) by omega]
        walk_at "gd"
        rename Kn _ _ _ _ => k1
        rw [cutLast _ (by rw [List.length_map, hrl]; omega), List.map_dropLast.symm] at k1
        walk_at "gd"
        rw [show (row m n).dropLast = row (m - 1) (n / 256) by
          have := row_cut (m - 1) n
          rwa [show m - 1 + 1 = m by omega] at this, decide_eq_true rfl]
        exact qb _ (k1.sub (by walk_at "sub"))
      clear k16
      -- another number
      walk_at "gd"
      rename_i _ _ x H18 hx kk
      obtain ⟨o, rfl, o0, o1⟩ : ∃ n : Int, x = .int n ∧ 0 ≤ n ∧ n < M := by
        simp only [List.mem_cons, List.not_mem_nil, or_false] at hx
        rcases hx with rfl | rfl | rfl
        · exact ⟨_, rfl, by omega, by omega⟩
        · exact ⟨_, rfl, by omega, by omega⟩
        · exact ⟨_, rfl, Int.emod_nonneg _ (by omega), Int.emod_lt_of_pos _ B0⟩
      clear hx
      have o1' : o < B m := hM ▸ o1
      have hon := rn_row m o o0 o1'
      walk_at "gd"
      rename_i sp H19 k19
      refine s_ltL (kn_sq k19 2 rfl) (kn_sq k19 0 rfl) (by rw [row_len, row_len]) ?_
      walk_at "gd"
      refine ite_no (by rw [llt_row m n o n0 n1' o0 o1']; simp) ?_
      walk_at "gd"
      refine ite_no (by rw [row_inj n0 n1' o0 o1']; simp) ?_
      have kk : Kn (some d) H1 [(sp, .lst ((row m o).map V.int)), (rp, .lst ((row m n).map V.int))] _ := k19.sub (by walk_at "sub")
      clear k19
      -- two rows as one
      walk_at "st"
      refine s_ifF (Kn (some d) H1 [(sp, .lst ((row m o).map V.int)), (rp, .lst ((row m n).map V.int))]) (fun QB qb => ?_) (fun H20 k20 => ?_)
      · walk_at "gd"
        refine ite_d (fun h => ?_) (fun h => qb _ kk)
        walk_at "gd"
        rename Kn _ _ _ _ => k1
        rw [← List.map_append] at k1
        walk_at "gd"
        rename Kn _ _ _ _ => k2
        refine s_I (.inr ⟨by omega, by omega⟩) ?_
        walk_at "gd"
        rw [rn_two m _ o o0 o1', hrn, ← hM, decide_eq_true rfl]
        exact qb _ (k2.sub (by walk_at "sub"))
      clear kk
      -- the sum of two
      walk_at "st"
      refine s_ifF (Kn (some d) H1 [(sp, .lst ((row m o).map V.int)), (rp, .lst ((row m n).map V.int))]) (fun QB qb => ?_) (fun H21 k21 => ?_)
      · walk_at "gd"
        refine ite_d (fun h => ?_) (fun h => qb _ k20)
        walk_at "gd"
        rename Kn _ _ _ _ => k2
        rw [rn_row m (n + o) (by omega) (by omega), hrn, hon, decide_eq_true rfl]
        exact qb _ (k2.sub (by walk_at "sub"))
      clear k20
      -- the other octets
      walk_at "gd"
      rename Kn _ _ _ _ => k22
      refine n_lcL (kn_sq k22 2 rfl) (by rw [List.length_map]; omega) k22 (fun D acc H2 k => kn_sq k 3 rfl) (fun i acc => acc = (((row m n).map (255 - ·)).take i).map V.int) rfl (fun i x acc D H2 hx ra ka Q' q' => ?_)
        (fun i acc e => by rw [e, List.length_map, List.length_take]; exact Nat.min_le_left _ _) (fun acc p23 H23 ra k23 => ?_)
      · obtain ⟨z, hz, rfl⟩ : ∃ z, (row m n)[i]? = some z ∧ V.int z = x := by
          rw [List.getElem?_map] at hx
          cases e : (row m n)[i]? with
          | none => rw [e] at hx; cases hx
          | some z => rw [e] at hx; exact ⟨z, rfl, Option.some.inj hx⟩
        refine q' _ _ ka (fun z => nomatch z) (fun _ Q'' q'' => ?_)
        walk_at "gd"
        refine q'' _ _ ?_ ka
        rw [ra, List.take_add_one, List.map_append, List.getElem?_map, hz]; rfl
      subst ra
      rw [List.take_of_length_le (by rw [List.length_map, List.length_map]; exact Nat.le_refl _)] at k23
      clear k22
      walk_at "gd"
      rw [hM, row_comp]
      refine ite_no (by simp) ?_
      -- the mark
      walk_at "gd"
      rename Kn _ _ _ _ => k24
      refine ⟨_, n, rfl, kn_tq k24 0 rfl, n0, by omega, fun ma mb mc md H25 mp s25 h25 e25 => ?_⟩
      have kk := k24.ret h25 s25 e25
      clear k24
      walk_at "gd"
      rename Kn _ _ _ _ => k26
      rw [mark_cut] at k26
      refine u_row (m := 4) k26 (by decide) (fun p27 H27 k27 => ?_)
      clear kk k26
      walk_at "gd"
      refine ite_no (by simp) ?_
      walk_at "gd"
      rename Kn _ _ _ _ => k28
      rw [mark_rest] at k28
      refine s_rep k28 (k28.get 0 rfl) (by decide) (by decide) (small_len rfl) (fun p29 H29 k29 => ?_)
      clear k28
      rw [rep1 (n := 503) (z := 0)] at k29
      walk_at "gd"
      refine ite_no (by simp) ?_
      walk_at "gd"
      exact ⟨_, _, _, _, _, _, _, _, _, rfl, k29.none_⟩
    · obtain ⟨y2, y3, y4, y5, y6, y7, y8, y9, y10, rfl, kk⟩ := hp
      walk_at "gd"
      rename Kn _ _ _ _ => k1
      refine u_num (ns := []) k1 (kn_sq k1 0 rfl) (by decide) (fun H2 k2 => ?_)
      clear kk k1
      walk_at "gd"
      refine ite_yes rfl ?_
      walk_at "gd"
      refine u_row (m := 4) k2 (by decide) (fun p3 H3 k3 => ?_)
      clear k2
      walk_at "gd"
      rename Kn _ _ _ _ => k4
      refine s_eqL (ns := row 4 515) (ms := [0, 0, 2, 3]) (kn_sq k4 1 rfl) (kn_sq k4 0 rfl) ?_
      rw [show decide (row 4 515 = [0, 0, 2, 3]) = true by decide +kernel]
      exact q _
end

theorem all_mk {l : PySem.W.OpenLaw} {w : World} {K : PySem.W.Frag} {h : Heap} {mg : Str → Option Value} {fa : Addr} (X : K.In h) (G : h.Ns mainGlobals mg) (hfa : mg "law" = some (.ref fa))
    {f0 : Addr} {od0 an0 : Option Addr} {sl0 : Array (Option Value)} {oc0 kV0 dc0 pm0 cd0 ct0 : Value} {f1 : Addr} {od1 an1 : Option Addr} {sl1 : Array (Option Value)} {oc1 kV1 dc1 pm1 cd1 ct1 : Value} {f2 : Addr} {od2 an2 : Option Addr} {sl2 : Array (Option Value)} {oc2 kV2 dc2 pm2 cd2 ct2 : Value} {f3 : Addr} {od3 an3 : Option Addr} {sl3 : Array (Option Value)} {oc3 kV3 dc3 pm3 cd3 ct3 : Value} {f4 : Addr} {od4 an4 : Option Addr} {sl4 : Array (Option Value)} {oc4 kV4 dc4 pm4 cd4 ct4 : Value} {f5 : Addr} {od5 an5 : Option Addr} {sl5 : Array (Option Value)} {oc5 kV5 dc5 pm5 cd5 ct5 : Value} {f6 : Addr} {od6 an6 : Option Addr} {sl6 : Array (Option Value)} {oc6 kV6 dc6 pm6 cd6 ct6 : Value} {f7 : Addr} {od7 an7 : Option Addr} {sl7 : Array (Option Value)} {oc7 kV7 dc7 pm7 cd7 ct7 : Value} {f8 : Addr} {od8 an8 : Option Addr} {sl8 : Array (Option Value)} {oc8 kV8 dc8 pm8 cd8 ct8 : Value} {f9 : Addr} {od9 an9 : Option Addr} {sl9 : Array (Option Value)} {oc9 kV9 dc9 pm9 cd9 ct9 : Value} {f10 : Addr} {od10 an10 : Option Addr} {sl10 : Array (Option Value)} {oc10 kV10 dc10 pm10 cd10 ct10 : Value} {f11 : Addr} {od11 an11 : Option Addr} {sl11 : Array (Option Value)} {oc11 kV11 dc11 pm11 cd11 ct11 : Value} {tk0 : Tok} {tk1 : Tok} {ga2 : Addr} {es2 : Array DictEntry} {en2 : Nat} {u2_0 : Value} {tk3 : Tok} {tk4 : Tok}
    (a0 : PySem.W.nsIn K mainGlobals "number_row" = some (some (.ref f0))) (l0 : K.lookup f0 = some ⟨oc0, od0, .func (PySem.W.fnOf "number_row" "number_row" (defArgs s_number_row) (defBody s_number_row) (defScope s_number_row) .none kV0 dc0 pm0 an0 cd0 ct0), sl0⟩) (c0 : PySem.W.codeIn K cd0 "number_row" = true) (k0 : PySem.W.keepIn K (.ref f0) = true)
    (a1 : PySem.W.nsIn K mainGlobals "row_number" = some (some (.ref f1))) (l1 : K.lookup f1 = some ⟨oc1, od1, .func (PySem.W.fnOf "row_number" "row_number" (defArgs s_row_number) (defBody s_row_number) (defScope s_row_number) .none kV1 dc1 pm1 an1 cd1 ct1), sl1⟩) (c1 : PySem.W.codeIn K cd1 "row_number" = true) (k1 : PySem.W.keepIn K (.ref f1) = true)
    (a2 : PySem.W.nsIn K mainGlobals "is_number" = some (some (.ref f2))) (l2 : K.lookup f2 = some ⟨oc2, od2, .func (PySem.W.fnOf "is_number" "is_number" (defArgs s_is_number) (defBody s_is_number) (defScope s_is_number) .none kV2 dc2 pm2 an2 cd2 ct2), sl2⟩) (c2 : PySem.W.codeIn K cd2 "is_number" = true) (k2 : PySem.W.keepIn K (.ref f2) = true)
    (a3 : PySem.W.nsIn K mainGlobals "fits_page" = some (some (.ref f3))) (l3 : K.lookup f3 = some ⟨oc3, od3, .func (PySem.W.fnOf "fits_page" "fits_page" (defArgs s_fits_page) (defBody s_fits_page) (defScope s_fits_page) .none kV3 dc3 pm3 an3 cd3 ct3), sl3⟩) (c3 : PySem.W.codeIn K cd3 "fits_page" = true) (k3 : PySem.W.keepIn K (.ref f3) = true)
    (a4 : PySem.W.nsIn K mainGlobals "content_body" = some (some (.ref f4))) (l4 : K.lookup f4 = some ⟨oc4, od4, .func (PySem.W.fnOf "content_body" "content_body" (defArgs s_content_body) (defBody s_content_body) (defScope s_content_body) .none kV4 dc4 pm4 an4 cd4 ct4), sl4⟩) (c4 : PySem.W.codeIn K cd4 "content_body" = true) (k4 : PySem.W.keepIn K (.ref f4) = true)
    (a5 : PySem.W.nsIn K mainGlobals "summed_octets" = some (some (.ref f5))) (l5 : K.lookup f5 = some ⟨oc5, od5, .func (PySem.W.fnOf "summed_octets" "summed_octets" (defArgs s_summed_octets) (defBody s_summed_octets) (defScope s_summed_octets) .none kV5 dc5 pm5 an5 cd5 ct5), sl5⟩) (c5 : PySem.W.codeIn K cd5 "summed_octets" = true) (k5 : PySem.W.keepIn K (.ref f5) = true)
    (a6 : PySem.W.nsIn K mainGlobals "page_sums" = some (some (.ref f6))) (l6 : K.lookup f6 = some ⟨oc6, od6, .func (PySem.W.fnOf "page_sums" "page_sums" (defArgs s_page_sums) (defBody s_page_sums) (defScope s_page_sums) .none kV6 dc6 pm6 an6 cd6 ct6), sl6⟩) (c6 : PySem.W.codeIn K cd6 "page_sums" = true) (k6 : PySem.W.keepIn K (.ref f6) = true)
    (a7 : PySem.W.nsIn K mainGlobals "write_page" = some (some (.ref f7))) (l7 : K.lookup f7 = some ⟨oc7, od7, .func (PySem.W.fnOf "write_page" "write_page" (defArgs s_write_page) (defBody s_write_page) (defScope s_write_page) .none kV7 dc7 pm7 an7 cd7 ct7), sl7⟩) (c7 : PySem.W.codeIn K cd7 "write_page" = true) (k7 : PySem.W.keepIn K (.ref f7) = true)
    (a8 : PySem.W.nsIn K mainGlobals "_law_deck" = some (some (.ref f8))) (l8 : K.lookup f8 = some ⟨oc8, od8, .func (PySem.W.fnOf "_law_deck" "_law_deck" (defArgs s_u_law_deck) (defBody s_u_law_deck) (defScope s_u_law_deck) .none kV8 dc8 pm8 an8 cd8 ct8), sl8⟩) (c8 : PySem.W.codeIn K cd8 "_law_deck" = true) (k8 : PySem.W.keepIn K (.ref f8) = true)
    (a9 : PySem.W.nsIn K mainGlobals "_law_take" = some (some (.ref f9))) (l9 : K.lookup f9 = some ⟨oc9, od9, .func (PySem.W.fnOf "_law_take" "_law_take" (defArgs s_u_law_take) (defBody s_u_law_take) (defScope s_u_law_take) .none kV9 dc9 pm9 an9 cd9 ct9), sl9⟩) (c9 : PySem.W.codeIn K cd9 "_law_take" = true) (k9 : PySem.W.keepIn K (.ref f9) = true)
    (a10 : PySem.W.nsIn K mainGlobals "_law_pick" = some (some (.ref f10))) (l10 : K.lookup f10 = some ⟨oc10, od10, .func (PySem.W.fnOf "_law_pick" "_law_pick" (defArgs s_u_law_pick) (defBody s_u_law_pick) (defScope s_u_law_pick) .none kV10 dc10 pm10 an10 cd10 ct10), sl10⟩) (c10 : PySem.W.codeIn K cd10 "_law_pick" = true) (k10 : PySem.W.keepIn K (.ref f10) = true)
    (a11 : PySem.W.nsIn K mainGlobals "law" = some (some (.ref f11))) (l11 : K.lookup f11 = some ⟨oc11, od11, .func (PySem.W.fnOf "law" "law" (defArgs s_law) (defBody s_law) (defScope s_law) .none kV11 dc11 pm11 an11 cd11 ct11), sl11⟩) (c11 : PySem.W.codeIn K cd11 "law" = true) (k11 : PySem.W.keepIn K (.ref f11) = true)
    (z0 : PySem.W.nsIn K mainGlobals "range" = some none)
    (z1 : PySem.W.nsIn K mainGlobals "int" = some none)
    (z2 : PySem.W.nsIn K mainGlobals "list" = some none)
    (z3 : PySem.W.nsIn K mainGlobals "sum" = some none)
    (z4 : PySem.W.nsIn K mainGlobals "len" = some none)
    (z5 : PySem.W.nsIn K mainGlobals "abs" = some none)
    (v0 : PySem.W.nsIn K mainGlobals "NUMBER_LIMIT" = some (some (.int 4294967296 tk0)))
    (v1 : PySem.W.nsIn K mainGlobals "MODULUS" = some (some (.int 65521 tk1)))
    (v2 : PySem.W.nsIn K mainGlobals "KINDS" = some (some (.ref ga2)))
    (dl2 : K.lookup ga2 = some ⟨.type "dict", none, .dict es2 en2, #[]⟩) (dk2 : PySem.W.KeysLit w.params es2.toList)
    (de2_0 : PySem.W.nsIn K ga2 "mark" = some (some u2_0)) (dr2_0 : RelV (.int 4) u2_0)
    (v3 : PySem.W.nsIn K mainGlobals "PAGE_SIZE" = some (some (.int 512 tk3)))
    (v4 : PySem.W.nsIn K mainGlobals "HEAD_SIZE" = some (some (.int 5 tk4))) :
    ∃ fd : FuncData, (∀ (s : Shared) (v : Value), BindsTo s fd ⟨[v], []⟩ [("script", v)]) ∧ ∀ base : Heap, K.In base → base.Ns mainGlobals mg → FnOk l.prog w K mg base CX0 5 fa fd ["script"] (sp_law K) := by
  have e := hfa.symm.trans (PySem.W.mg_of X G a11)
  cases e
  have F0 := fun_mk (st := s_number_row) l0 c0 k0
  have b0 := F0.binds (ps := ["number", "width"]) fun _ _ _ _ _ _ us hl => match us, hl with | [_, _], _ => rfl
  have F1 := fun_mk (st := s_row_number) l1 c1 k1
  have b1 := F1.binds (ps := ["row"]) fun _ _ _ _ _ _ us hl => match us, hl with | [_], _ => rfl
  have F2 := fun_mk (st := s_is_number) l2 c2 k2
  have b2 := F2.binds (ps := ["number"]) fun _ _ _ _ _ _ us hl => match us, hl with | [_], _ => rfl
  have F3 := fun_mk (st := s_fits_page) l3 c3 k3
  have b3 := F3.binds (ps := ["content"]) fun _ _ _ _ _ _ us hl => match us, hl with | [_], _ => rfl
  have F4 := fun_mk (st := s_content_body) l4 c4 k4
  have b4 := F4.binds (ps := ["content"]) fun _ _ _ _ _ _ us hl => match us, hl with | [_], _ => rfl
  have F5 := fun_mk (st := s_summed_octets) l5 c5 k5
  have b5 := F5.binds (ps := ["page"]) fun _ _ _ _ _ _ us hl => match us, hl with | [_], _ => rfl
  have F6 := fun_mk (st := s_page_sums) l6 c6 k6
  have b6 := F6.binds (ps := ["page"]) fun _ _ _ _ _ _ us hl => match us, hl with | [_], _ => rfl
  have F7 := fun_mk (st := s_write_page) l7 c7 k7
  have b7 := F7.binds (ps := ["content"]) fun _ _ _ _ _ _ us hl => match us, hl with | [_], _ => rfl
  have F8 := fun_mk (st := s_u_law_deck) l8 c8 k8
  have b8 := F8.binds (ps := ["script", "cells", "each"]) fun _ _ _ _ _ _ us hl => match us, hl with | [_, _, _], _ => rfl
  have F9 := fun_mk (st := s_u_law_take) l9 c9 k9
  have b9 := F9.binds (ps := ["deck", "many"]) fun _ _ _ _ _ _ us hl => match us, hl with | [_, _], _ => rfl
  have F10 := fun_mk (st := s_u_law_pick) l10 c10 k10
  have b10 := F10.binds (ps := ["deck", "items"]) fun _ _ _ _ _ _ us hl => match us, hl with | [_, _], _ => rfl
  have F11 := fun_mk (st := s_law) l11 c11 k11
  have b11 := F11.binds (ps := ["script"]) fun _ _ _ _ _ _ us hl => match us, hl with | [_], _ => rfl
  refine ⟨PySem.W.fnOf "law" "law" (defArgs s_law) (defBody s_law) (defScope s_law) .none kV11 dc11 pm11 an11 cd11 ct11, fun s v => .of_eq rfl, fun base _ _ => ?_⟩
  exact ok_law (P := l.prog) (w := w) (base := base) ({ m_range := PySem.W.mg_none_of X G z0, m_int := PySem.W.mg_none_of X G z1, m_list := PySem.W.mg_none_of X G z2, m_sum := PySem.W.mg_none_of X G z3, m_len := PySem.W.mg_none_of X G z4, m_abs := PySem.W.mg_none_of X G z5, t_NUMBER_LIMIT := tk0, v_NUMBER_LIMIT := PySem.W.mg_of X G v0, t_MODULUS := tk1, v_MODULUS := PySem.W.mg_of X G v1, a_KINDS := ga2, v_KINDS := PySem.W.mg_of X G v2, e_KINDS_mark := ⟨_, _, _, dl2, dk2, de2_0, dr2_0⟩, t_PAGE_SIZE := tk3, v_PAGE_SIZE := PySem.W.mg_of X G v3, t_HEAD_SIZE := tk4, v_HEAD_SIZE := PySem.W.mg_of X G v4, f_number_row := f0, d_number_row := _, F_number_row := F0, g_number_row := PySem.W.mg_of X G a0, b_number_row := b0, f_row_number := f1, d_row_number := _, F_row_number := F1, g_row_number := PySem.W.mg_of X G a1, b_row_number := b1, f_is_number := f2, d_is_number := _, F_is_number := F2, g_is_number := PySem.W.mg_of X G a2, b_is_number := b2, f_fits_page := f3, d_fits_page := _, F_fits_page := F3, g_fits_page := PySem.W.mg_of X G a3, b_fits_page := b3, f_content_body := f4, d_content_body := _, F_content_body := F4, g_content_body := PySem.W.mg_of X G a4, b_content_body := b4, f_summed_octets := f5, d_summed_octets := _, F_summed_octets := F5, g_summed_octets := PySem.W.mg_of X G a5, b_summed_octets := b5, f_page_sums := f6, d_page_sums := _, F_page_sums := F6, g_page_sums := PySem.W.mg_of X G a6, b_page_sums := b6, f_write_page := f7, d_write_page := _, F_write_page := F7, g_write_page := PySem.W.mg_of X G a7, b_write_page := b7, f_u_law_deck := f8, d_u_law_deck := _, F_u_law_deck := F8, g_u_law_deck := PySem.W.mg_of X G a8, b_u_law_deck := b8, f_u_law_take := f9, d_u_law_take := _, F_u_law_take := F9, g_u_law_take := PySem.W.mg_of X G a9, b_u_law_take := b9, f_u_law_pick := f10, d_u_law_pick := _, F_u_law_pick := F10, g_u_law_pick := PySem.W.mg_of X G a10, b_u_law_pick := b10, f_law := fa, d_law := _, F_law := F11, g_law := PySem.W.mg_of X G a11, b_law := b11 } : Txt w K mg)
end Tm
open PySem PySem.W PyProof.Rows
set_option maxHeartbeats 0 in
theorem PySem.Challenge.cw_tidemark_k42_whole_numbers_and_rows_holds : PySem.Challenge.rw_tidemark_k42_whole_numbers_and_rows.Holds := by
  w_on; o_law; k_head; (case hw => w_witness2)
  k_fill
  refine L2.walk_of (l := PySem.Challenge.rw_tidemark_k42_whole_numbers_and_rows) (n := 63) (k := 5) (x := "script") (CX := fun _ => L2.CX0) (sp := fun w => Tm.sp_law _) rfl (by decide) rfl ⟨rfl, by decide, by decide⟩ (fun w h Y => PySem.W.kIn_of Y) ?F (fun _ _ a ns hl _ hS => ⟨a, ns, rfl, hS, hl, fun _ => rfl⟩) (fun _ _ _ _ _ h => h)
  case F =>
    intro w mg fa h KX G hmg
    refine' Tm.all_mk KX G hmg ?a0 ?l0 ?c0 ?k0 ?a1 ?l1 ?c1 ?k1 ?a2 ?l2 ?c2 ?k2 ?a3 ?l3 ?c3 ?k3 ?a4 ?l4 ?c4 ?k4 ?a5 ?l5 ?c5 ?k5 ?a6 ?l6 ?c6 ?k6 ?a7 ?l7 ?c7 ?k7 ?a8 ?l8 ?c8 ?k8 ?a9 ?l9 ?c9 ?k9 ?a10 ?l10 ?c10 ?k10 ?a11 ?l11 ?c11 ?k11 ?z0 ?z1 ?z2 ?z3 ?z4 ?z5 ?v0 ?v1 ?v2 ?dl2 ?dk2 ?de2_0 ?dr2_0 ?v3 ?v4
    (case a0 => k_is); (case l0 => k_is); (case c0 => k_is); (case k0 => k_is); (case a1 => k_is); (case l1 => k_is); (case c1 => k_is); (case k1 => k_is); (case a2 => k_is); (case l2 => k_is); (case c2 => k_is); (case k2 => k_is); (case a3 => k_is); (case l3 => k_is); (case c3 => k_is); (case k3 => k_is); (case a4 => k_is); (case l4 => k_is); (case c4 => k_is); (case k4 => k_is); (case a5 => k_is); (case l5 => k_is); (case c5 => k_is); (case k5 => k_is); (case a6 => k_is); (case l6 => k_is); (case c6 => k_is); (case k6 => k_is); (case a7 => k_is); (case l7 => k_is); (case c7 => k_is); (case k7 => k_is); (case a8 => k_is); (case l8 => k_is); (case c8 => k_is); (case k8 => k_is); (case a9 => k_is); (case l9 => k_is); (case c9 => k_is); (case k9 => k_is); (case a10 => k_is); (case l10 => k_is); (case c10 => k_is); (case k10 => k_is); (case a11 => k_is); (case l11 => k_is); (case c11 => k_is); (case k11 => k_is); (case z0 => k_is); (case z1 => k_is); (case z2 => k_is); (case z3 => k_is); (case z4 => k_is); (case z5 => k_is); (case v0 => k_is); (case v1 => k_is); (case v2 => k_is); (case dl2 => k_is); (case dk2 => k_keys); (case de2_0 => k_is); (case dr2_0 => exact ⟨_, rfl⟩); (case v3 => k_is); (case v4 => k_is)
