import PyProof.Rows.All
import Wide.All
import OpenK.AllK
import Wide.FinOn
import HandS.ForMost
import HandS.TryOnly
import HandS.SortInts
import HandS.StrMore
import HandS.Style
import KE.LtSeq
import HandS.More
import HandS.IsInst
import HandS.Text
import HandS.Walk
import KE.LtSeq
import PySem.Challenge.RW_tidemark_k10_whole_names_and_paths_put_t
set_option Elab.async false
set_option linter.all false
set_option maxRecDepth 100000
namespace Tm
open PySem PySem.Spec PyProof.Rows L2

/-! ### heaps -/
/-- the deck: a list of draws -/
def DkOk (d : Addr) (H : Hp) : Prop := ∃ ds : List Int, H d = some (.lst (ds.map V.int)) ∧ (∀ x ∈ ds, 0 ≤ x ∧ x < 1000003) ∧ ds.length ≤ 10000
/-- all but the deck at d stays as it is; the deck is a deck -/
def Dx (d : Addr) (H H' : Hp) : Prop := (∀ a o, a ≠ d → H a = some o → H' a = some o) ∧ DkOk d H'
/-- what a body knows: since H0 all that was tracked (but the deck) is as it was; the objects of G are new and its own -/
structure Kn (d : Option Addr) (H0 : Hp) (G : List (Addr × HO)) (H : Hp) : Prop where
  keep : ∀ a o, some a ≠ d → H0 a = some o → H a = some o
  dk : ∀ a, d = some a → DkOk a H
  dk0 : ∀ a, d = some a → H0 a ≠ none
  nd : (G.map Prod.fst).Nodup
  nw : ∀ e ∈ G, H0 e.1 = none
  at_ : ∀ e ∈ G, H e.1 = some e.2
theorem DkOk.some {d : Addr} {H : Hp} (h : DkOk d H) : H d ≠ none := by
  obtain ⟨ds, e, _⟩ := h
  rw [e]; exact fun z => nomatch z
theorem Kn.nil {H : Hp} : Kn none H [] H := ⟨fun _ _ _ h => h, (fun _ z => nomatch z), (fun _ z => nomatch z), List.nodup_nil, (fun _ z => nomatch z), (fun _ z => nomatch z)⟩
theorem Kn.deck {d : Addr} {H : Hp} (h : DkOk d H) : Kn (some d) H [] H := ⟨fun _ _ _ h => h, fun _ z => by cases z; exact h, fun _ z => by cases z; exact h.some, List.nodup_nil, (fun _ z => nomatch z), (fun _ z => nomatch z)⟩
section
variable {d : Option Addr} {H0 H H' : Hp} {G : List (Addr × HO)} {p : Addr} {o o' : HO}
theorem Kn.fresh (k : Kn d H0 G H) (h : H p = none) : H0 p = none := by
  cases e : H0 p with
  | none => rfl
  | some u =>
    by_cases z : some p = d
    · exact absurd h (k.dk p z.symm).some
    · rw [k.keep p u z e] at h; cases h
theorem Kn.new (k : Kn d H0 G H) (h : H p = none) : Kn d H0 ((p, o) :: G) (upd H p o) := by
  have hd : ∀ a, d = some a → a ≠ p := fun a z e => by subst e; exact absurd h (k.dk a z).some
  have hg : ∀ e ∈ G, e.1 ≠ p := fun e he z => by have := k.at_ e he; rw [z, h] at this; cases this
  refine ⟨fun a u na e => ?_, fun a z => ?_, k.dk0, ?_, fun e he => ?_, fun e he => ?_⟩
  · have e1 := k.keep a u na e
    rw [upd_ne (ne_of_none e1 h)]; exact e1
  · obtain ⟨ds, e1, r⟩ := k.dk a z
    exact ⟨ds, by rw [upd_ne (hd a z)]; exact e1, r⟩
  · refine List.nodup_cons.mpr ⟨fun hm => ?_, k.nd⟩
    obtain ⟨e, he, z⟩ := List.mem_map.mp hm
    exact hg e he z
  · rcases List.mem_cons.mp he with rfl | he
    · exact k.fresh h
    · exact k.nw e he
  · rcases List.mem_cons.mp he with rfl | he
    · exact upd_same
    · rw [upd_ne (hg e he)]; exact k.at_ e he
theorem Kn.get (k : Kn d H0 G H) (i : Nat) (h : G[i]? = some (p, o)) : H p = some o := k.at_ (p, o) (List.mem_of_getElem? h)
theorem Kn.nw_at (k : Kn d H0 G H) (i : Nat) (h : G[i]? = some (p, o)) : H0 p = none := k.nw (p, o) (List.mem_of_getElem? h)
/-- one of the body's own objects is changed -/
theorem Kn.put (k : Kn d H0 G H) (i : Nat) (h : G[i]? = some (p, o)) : Kn d H0 (G.set i (p, o')) (upd H p o') := by
  have np := k.nw_at i h
  have hd : ∀ a, d = some a → a ≠ p := fun a z e => by subst e; exact absurd np (k.dk0 a z)
  obtain ⟨hi, hgi⟩ := List.getElem?_eq_some_iff.mp h
  have hm : (G.set i (p, o')).map Prod.fst = G.map Prod.fst := by
    rw [List.map_set]
    refine List.ext_getElem? fun j => ?_
    by_cases hj : i = j
    · subst hj
      rw [List.getElem?_set_self (by simpa using hi), List.getElem?_map, h]; rfl
    · rw [List.getElem?_set_ne hj]
  refine ⟨fun a u na e => ?_, fun a z => ?_, k.dk0, by rw [hm]; exact k.nd, fun e he => ?_, fun e he => ?_⟩
  · have e1 := k.keep a u na e
    rw [upd_ne (ne_of_none e np)]; exact e1
  · obtain ⟨ds, e1, r⟩ := k.dk a z
    exact ⟨ds, by rw [upd_ne (hd a z)]; exact e1, r⟩
  · have : e.1 ∈ (G.set i (p, o')).map Prod.fst := List.mem_map_of_mem he
    rw [hm] at this
    obtain ⟨e', he', z⟩ := List.mem_map.mp this
    rw [← z]; exact k.nw e' he'
  · obtain ⟨j, hj⟩ := List.getElem?_of_mem he
    by_cases hij : i = j
    · subst hij
      rw [List.getElem?_set_self hi] at hj
      cases hj
      exact upd_same
    · rw [List.getElem?_set_ne hij] at hj
      have hne : e.1 ≠ p := fun z => by
        have h1 : (G.map Prod.fst)[j]? = some e.1 := by rw [List.getElem?_map, hj]; rfl
        have h2 : (G.map Prod.fst)[i]? = some e.1 := by rw [List.getElem?_map, h, z]; rfl
        exact hij (nd_ix k.nd h2 h1)
      rw [upd_ne hne]; exact k.at_ e (List.mem_of_getElem? hj)
theorem Kn.same (k : Kn d H0 G H) (s : Same H H') : Kn d H0 G H' :=
  ⟨fun a u na e => s a u (k.keep a u na e), fun a z => let ⟨ds, e, r⟩ := k.dk a z; ⟨ds, s a _ e, r⟩, k.dk0, k.nd, k.nw, fun e he => s _ _ (k.at_ e he)⟩
theorem Kn.ret (k : Kn d H0 G H) (h : H p = none) (s : Same H H') (e : H' p = some o) : Kn d H0 ((p, o) :: G) H' := by
  have hg : ∀ e ∈ G, e.1 ≠ p := fun e he z => by have := k.at_ e he; rw [z, h] at this; cases this
  have k' := k.same s
  refine ⟨k'.keep, k'.dk, k'.dk0, ?_, fun u hu => ?_, fun u hu => ?_⟩
  · refine List.nodup_cons.mpr ⟨fun hm => ?_, k.nd⟩
    obtain ⟨e, he, z⟩ := List.mem_map.mp hm
    exact hg e he z
  · rcases List.mem_cons.mp hu with rfl | hu
    · exact k.fresh h
    · exact k.nw u hu
  · rcases List.mem_cons.mp hu with rfl | hu
    · exact e
    · exact k'.at_ u hu
theorem Kn.forget (k : Kn d H0 G H) (n : Nat) : Kn d H0 (G.drop n) H :=
  ⟨k.keep, k.dk, k.dk0, by rw [List.map_drop]; exact k.nd.sublist (List.drop_sublist _ _), fun e he => k.nw e (List.mem_of_mem_drop he), fun e he => k.at_ e (List.mem_of_mem_drop he)⟩
theorem Kn.none_ (k : Kn d H0 G H) : Kn d H0 [] H := ⟨k.keep, k.dk, k.dk0, List.nodup_nil, (fun _ z => nomatch z), (fun _ z => nomatch z)⟩
end
section
variable {d : Addr} {H0 H H' : Hp} {G : List (Addr × HO)} {p : Addr} {o o' : HO}
theorem Kn.dx (k : Kn (some d) H0 G H) (x : Dx d H H') : Kn (some d) H0 G H' :=
  ⟨fun a u na e => x.1 a u (fun z => na (by rw [z])) (k.keep a u na e), fun a z => by cases z; exact x.2, k.dk0, k.nd, k.nw,
    fun e he => x.1 _ _ (fun z => k.dk0 d rfl (z ▸ k.nw e he)) (k.at_ e he)⟩
theorem Kn.dk' (k : Kn (some d) H0 G H) : DkOk d H := k.dk d rfl
theorem Kn.toDx (k : Kn (some d) H0 G H) : Dx d H0 H := ⟨fun a o na e => k.keep a o (fun z => na (Option.some.inj z)) e, k.dk'⟩
/-- a call that makes a new object and draws -/
theorem Kn.retD (k : Kn (some d) H0 G H) (h : H p = none) (x : Dx d H H') (e : H' p = some o) : Kn (some d) H0 ((p, o) :: G) H' := by
  have hg : ∀ e ∈ G, e.1 ≠ p := fun e he z => by have := k.at_ e he; rw [z, h] at this; cases this
  have k' := k.dx x
  refine ⟨k'.keep, k'.dk, k'.dk0, ?_, fun u hu => ?_, fun u hu => ?_⟩
  · refine List.nodup_cons.mpr ⟨fun hm => ?_, k.nd⟩
    obtain ⟨e, he, z⟩ := List.mem_map.mp hm
    exact hg e he z
  · rcases List.mem_cons.mp hu with rfl | hu
    · exact k.fresh h
    · exact k.nw u hu
  · rcases List.mem_cons.mp hu with rfl | hu
    · exact e
    · exact k'.at_ u hu
end
theorem Kn.toSame {H0 H : Hp} {G : List (Addr × HO)} (k : Kn none H0 G H) : Same H0 H := fun a o e => k.keep a o (fun z => nomatch z) e
theorem Kn.sq {K : PySem.W.Frag} {d : Option Addr} {H0 H : Hp} {G : List (Addr × HO)} {a : Addr} {xs : List V} (k : Kn d H0 G H) (h : SqL K H0 a xs) (n : some a ≠ d) : SqL K H a xs := by
  rcases h with (h | ⟨o, h⟩) | h
  · exact .inl (.inl (k.keep _ _ n h))
  · exact .inl (.inr ⟨o, k.keep _ _ n h⟩)
  · exact .inr h

/-! ### steps of a reading -/
section
variable {X : Cx} {K : PySem.W.Frag} {σ : L2.St} {H : Hp} {Q : VK} {v : V} {i j : Int} {n : Nat} {ta tb te : TE} {r : R2} {D : Ends} {t u : TS} {tt uu : TT} {QB : Bool → Hp → Prop}
theorem s_var (h : σ[n]? = some (some v)) (q : Q v H) : tVar n σ H Q := ⟨v, h, q⟩
theorem s_c (q : Q v H) : tC v σ H Q := q
theorem s_op (q : ta σ H fun x H1 => tb σ H1 fun y H2 => r x y H2 Q) : tOp r ta tb σ H Q := q
theorem s_I0 {g : Int → Int → V} (q : Q (g i j) H) : rI0 g (.int i) (.int j) H Q := ⟨i, j, rfl, rfl, q⟩
theorem s_I {C : Int → Int → Prop} {g : Int → Int → V} (h : C i j) (q : Q (g i j) H) : rI C g (.int i) (.int j) H Q := ⟨i, j, rfl, rfl, h, q⟩
theorem s_un {f : V → Hp → VK → Prop} (q : ta σ H fun x H1 => f x H1 Q) : tUn f ta σ H Q := q
theorem s_U {g : Int → V} (q : Q (g i) H) : rU g (.int i) H Q := ⟨i, rfl, q⟩
theorem s_eqI (q : Q (.bl (decide (i = j))) H) : rEq (.int i) (.int j) H Q := ⟨rfl, by have e : decide (V.int i = V.int j) = decide (i = j) := by simp
                                                                                       rw [e]; exact q⟩
theorem s_neI (q : Q (.bl (!decide (i = j))) H) : rNe (.int i) (.int j) H Q := ⟨rfl, by have e : decide (V.int i = V.int j) = decide (i = j) := by simp
                                                                                        rw [e]; exact q⟩
theorem s_test (q : te σ H fun x H' => ∃ k, x = .bl k ∧ QB k H') : tTest te σ H QB := q
theorem s_B (q : te σ H fun x H' => ∃ k, x = .bl k ∧ QB k H') : tB te σ H QB := q
theorem s_bl {b : Bool} {P : Bool → Prop} (q : P b) : ∃ k, V.bl b = .bl k ∧ P k := ⟨b, rfl, q⟩
theorem s_seq (q : t { D with nx := u D } σ H) : tSeq t u D σ H := q
theorem s_sig {σ' : L2.St} (e : σ = σ') (q : t D σ' H) : t D σ H := e ▸ q
theorem s_asg {g : TG} (q : te σ H fun x H1 => g x σ H1 D.nx) : tAsg te g D σ H := q
theorem s_name {Q : L2.St → Hp → Prop} (q : Q (σ.set n (some v)) H) : gName n v σ H Q := q
theorem s_ret (q : te σ H D.rt) : tRet te D σ H := q
theorem s_drop (q : te σ H fun _ H1 => D.nx σ H1) : tDrop te D σ H := q
theorem s_next (q : D.nx σ H) : tNext D σ H := q
theorem s_ifS (q : tt σ H fun b H1 => if b = true then t D σ H1 else u D σ H1) : tIfS tt t u D σ H := q
theorem s_if (q : tt σ H fun c H1 => if c = true then ta σ H1 Q else tb σ H1 Q) : tIf tt ta tb σ H Q := q
theorem s_and (q : tt σ H fun c H1 => if c = true then uu σ H1 QB else QB false H1) : tAnd tt uu σ H QB := q
theorem s_or (q : tt σ H fun c H1 => if c = true then QB true H1 else uu σ H1 QB) : tOr tt uu σ H QB := q
theorem s_not (q : tt σ H fun c H1 => QB (!c) H1) : tNot tt σ H QB := q
theorem s_andV (q : ta σ H fun x H1 => ∃ c, x = .bl c ∧ if c = true then tb σ H1 Q else Q (.bl false) H1) : tAndV ta tb σ H Q := q
theorem s_orV (q : ta σ H fun x H1 => ∃ c, x = .bl c ∧ if c = true then Q (.bl true) H1 else tb σ H1 Q) : tOrV ta tb σ H Q := q
theorem s_aug {ti : TIp} (h : σ[n]? = some (some v)) (q : te σ H fun y H1 => ti v y H1 fun z H2 => D.nx (σ.set n (some z)) H2) : tAug n te ti D σ H := ⟨v, h, q⟩
theorem s_ipI {f : Int → Int → Int} (q : Q (.int (f i j)) H) : ipI f (.int i) (.int j) H Q := ⟨i, j, rfl, rfl, q⟩
theorem s_nil {Q : List V → Hp → Prop} (q : Q [] H) : tNil σ H Q := q
theorem s_cons {tr : TA} {Q : List V → Hp → Prop} (q : te σ H fun x H1 => tr σ H1 fun xs H2 => Q (x :: xs) H2) : tCons te tr σ H Q := q
theorem s_call {sp : Sp} {dvs : List V} {E : XK} {t : TA} (q : t σ H fun vs H1 => sp (vs ++ dvs) H1 Q E) : tCall sp dvs E t σ H Q := q
theorem s_call0 {sp : Sp} {E : XK} {t : TA} (q : t σ H fun vs H1 => sp vs H1 Q E) : tCall sp [] E t σ H Q := by
  unfold tCall
  simp only [List.append_nil]
  exact q
theorem s_CB {r : List V → Hp → VK → Prop} {t : TA} (q : t σ H fun vs H1 => r vs H1 Q) : tCB r t σ H Q := q
def nwL (xs : List V) (H : Hp) (Q : VK) : Prop := xs.length ≤ sizeLine ∧ ∀ p, H p = none → Q (.ref p) (upd H p (.lst xs))
def nwT (xs : List V) (H : Hp) (Q : VK) : Prop := xs.length ≤ sizeLine ∧ ∀ p, H p = none → Q (.ref p) (upd H p (.tup xs))
theorem s_lst {t : TA} (q : t σ H fun xs H1 => nwL xs H1 Q) : tLst t σ H Q := q
theorem s_tup {t : TA} (q : t σ H fun xs H1 => nwT xs H1 Q) : tTup t σ H Q := q
theorem s_sl {r : V → Option Int → Option Int → Hp → VK → Prop} {tl th : TO} (q : te σ H fun x H1 => tl σ H1 fun l H2 => th σ H2 fun u H3 => r x l u H3 Q) : tSl r te tl th σ H Q := q
theorem s_part {Q : Option Int → Hp → Prop} (q : te σ H fun x H1 => ∃ i, x = .int i ∧ Q (some i) H1) : tPart te σ H Q := q
theorem s_nopart {Q : Option Int → Hp → Prop} (q : Q none H) : tNoPart σ H Q := q
theorem s_isI {P : Int → Prop} (q : P i) : ∃ k, V.int i = .int k ∧ P k := ⟨i, rfl, q⟩
/-- new objects -/
theorem n_lst {d : Option Addr} {H0 : Hp} {G : List (Addr × HO)} {xs : List V} (k : Kn d H0 G H) (hz : xs.length ≤ 1000000) (q : ∀ p H', Kn d H0 ((p, .lst xs) :: G) H' → Q (.ref p) H') :
    nwL xs H Q := ⟨Nat.le_trans hz (by decide), fun p hp => q p _ (k.new hp)⟩
theorem n_tup {d : Option Addr} {H0 : Hp} {G : List (Addr × HO)} {xs : List V} (k : Kn d H0 G H) (hz : xs.length ≤ 1000000) (q : ∀ p H', Kn d H0 ((p, .tup xs) :: G) H' → Q (.ref p) H') :
    nwT xs H Q := ⟨Nat.le_trans hz (by decide), fun p hp => q p _ (k.new hp)⟩
/-- known subscripts, lengths -/
theorem s_ixL {a : Addr} {xs : List V} (h : SqL K H a xs) (e : atI xs i = some v) (q : Q v H) : rIxL K (.ref a) (.int i) H Q := ⟨a, xs, i, v, rfl, rfl, h, e, q⟩
theorem s_ixT {a : Addr} {xs : List V} (h : SqT K H a xs) (e : atI xs i = some v) (q : Q v H) : rIxT K (.ref a) (.int i) H Q := ⟨a, xs, i, v, rfl, rfl, h, e, q⟩
theorem ite_no {c : Bool} {A B : Prop} (h : c = false) (b : B) : if c = true then A else B := by rw [h]; exact iteF b
theorem ite_yes {c : Bool} {A B : Prop} (h : c = true) (a : A) : if c = true then A else B := by rw [h]; exact iteT a
theorem ite_d {p : Prop} [Decidable p] {A B : Prop} (h1 : p → A) (h2 : ¬ p → B) : if decide p = true then A else B := by
  by_cases h : p
  · rw [if_pos (decide_eq_true h)]; exact h1 h
  · rw [if_neg (by simp [h])]; exact h2 h
end

/-! ### the built-ins' readings by name -/
def rIntC : List V → Hp → VK → Prop := fun xs H Q => (∃ i, xs = [.int i] ∧ Q (.int i) H) ∨ ∃ k, xs = [.bl k] ∧ Q (.int (if k then 1 else 0)) H
def rAbsC : List V → Hp → VK → Prop := fun xs H Q => ∃ i, xs = [.int i] ∧ Q (.int (if i < 0 then -i else i)) H
def rLenC (K : PySem.W.Frag) : List V → Hp → VK → Prop := fun xs H Q => ∃ p ys, xs = [.ref p] ∧ (SqL K H p ys ∨ SqT K H p ys) ∧ Q (.int ys.length) H
def rTupleC (K : PySem.W.Frag) : List V → Hp → VK → Prop := fun xs H Q => ∃ p ys, xs = [.ref p] ∧ ((SqL K H p ys ∧ ∀ l, H l = none → Q (.ref l) (upd H l (.tup ys))) ∨ (SqT K H p ys ∧ Q (.ref p) H))
def rListC (K : PySem.W.Frag) : List V → Hp → VK → Prop := fun xs H Q => ∃ p ys, xs = [.ref p] ∧ (SqL K H p ys ∨ SqT K H p ys) ∧ ∀ l, H l = none → Q (.ref l) (upd H l (.lst ys))
section
variable {X : Cx}
theorem kIxL {K : PySem.W.Frag} (h : X.K = K := by rfl) : IxR X (rIxL K) := by subst h; exact ix_list
theorem kIxT {K : PySem.W.Frag} (h : X.K = K := by rfl) : IxR X (rIxT K) := by subst h; exact ix_tup
theorem kLen {K : PySem.W.Frag} (h : X.K = K := by rfl) : CallR X (.builtin "len") (rLenC K) := by subst h; exact call_len_seq
theorem kList {K : PySem.W.Frag} (h : X.K = K := by rfl) : CallR X (.type "list") (rListC K) := by subst h; exact call_list_of
theorem kTuple {K : PySem.W.Frag} (h : X.K = K := by rfl) : CallR X (.type "tuple") (rTupleC K) := by subst h; exact call_tuple_of
theorem kSlL {K : PySem.W.Frag} (h : X.K = K := by rfl) : SlR X (rSlL K) := by subst h; exact sl_list
theorem kSlT {K : PySem.W.Frag} (h : X.K = K := by rfl) : SlR X (rSlT K) := by subst h; exact sl_tup
theorem kIn {K : PySem.W.Frag} (h : X.K = K := by rfl) : OpR X (compareOp .In) (rIn K false) := by subst h; exact op_in_seq
theorem kNotIn {K : PySem.W.Frag} (h : X.K = K := by rfl) : OpR X (compareOp .NotIn) (rIn K true) := by subst h; exact op_notIn_seq
theorem kEqD {K : PySem.W.Frag} (hu : X.A.units + 64 < cLine) (h : X.K = K := by rfl) : OpR X (compareOp .Eq) (rEqD K) := by subst h; exact op_eqD hu
theorem kNeD {K : PySem.W.Frag} (hu : X.A.units + 64 < cLine) (h : X.K = K := by rfl) : OpR X (compareOp .NotEq) (rNeD K) := by subst h; exact op_neD hu
theorem kIxD {K : PySem.W.Frag} {w : World} (h : X.K = K := by rfl) (h' : X.w = w := by rfl) : IxR X (rIxD K w) := by subst h; subst h'; exact ix_kdict
theorem pe_revLK {K : PySem.W.Frag} {e : Expr} {te : TE} {k : Nat} {p1 p2 p3 pos : Pos} (he : PE X e te) (h : X.K = K := by rfl) : PE X (.Subscript e (.Slice none none (some (.UnaryOp .USub (.Constant (.int 1) k p1) p2)) p3) pos) (tRevL K te) := by subst h; exact pe_revL he
theorem kSum {K : PySem.W.Frag} (hc : X.calm = true) (h : X.K = K := by rfl) : CallR X (.builtin "sum") (rSum K) := by subst h; exact cr_sum hc
theorem kMax {K : PySem.W.Frag} (hc : X.calm = true) (h : X.K = K := by rfl) : CallR X (.builtin "max") (rMax K) := by subst h; exact cr_max hc
theorem kMin {K : PySem.W.Frag} (hc : X.calm = true) (h : X.K = K := by rfl) : CallR X (.builtin "min") (rMin K) := by subst h; exact cr_min hc
theorem kAny {K : PySem.W.Frag} (hc : X.calm = true) (h : X.K = K := by rfl) : CallR X (.builtin "any") (rAny K) := by subst h; exact cr_any hc
theorem kAll {K : PySem.W.Frag} (hc : X.calm = true) (h : X.K = K := by rfl) : CallR X (.builtin "all") (rAll K) := by subst h; exact cr_all hc
theorem kCatT {K : PySem.W.Frag} (h : X.K = K := by rfl) : OpR X (binaryOp .Add) (rCatT K) := by subst h; exact op_catT
theorem kSortedI {K : PySem.W.Frag} (h : X.K = K := by rfl) : CallR X (.builtin "sorted") (rSortedI K) := by subst h; exact cr_sortedI
theorem pi_listK {K : PySem.W.Frag} {tg l : Expr} {tl : TE} (hl : PE X l tl) (h : X.K = K := by rfl) : PI X tg l (iList K tl) := by subst h; exact pi_list hl
theorem pi_tupK {K : PySem.W.Frag} {tg l : Expr} {tl : TE} (hl : PE X l tl) (h : X.K = K := by rfl) : PI X tg l (iTup K tl) := by subst h; exact pi_tup hl
theorem pe_bm0K {K : PySem.W.Frag} {o : Expr} {to : TE} {name : Str} {apos cpos : Pos} {T id : String} {r : V → List V → Hp → VK → Prop} (pa : PlainAttrs T) (slot : Slot T name id) (hty : typeOf (.builtin id) = pure (.type "method_descriptor")) (hm : MtR X id r) (ho : PE X o to)
    (hbase : attributeBase o name X.env (eval o X.env) = eval o X.env := by rfl) (hline : (apos.endLine == cpos.line) = true := by rfl) (h : X.K = K := by rfl) : PE X (.Call (.Attribute o name apos) [] [] cpos) (tBM0 K T r to) := by
  subst h; exact pe_bm0 pa slot hty hm ho hbase hline
theorem pe_bmK {K : PySem.W.Frag} {o e : Expr} {es : List Expr} {to : TE} {t : TA} {name : Str} {apos cpos : Pos} {T id : String} {r : V → List V → Hp → VK → Prop} (pa : PlainAttrs T) (slot : Slot T name id) (hty : typeOf (.builtin id) = pure (.type "method_descriptor")) (hm : MtR X id r) (ho : PE X o to) (ha : PA X (e :: es) t)
    (hbase : attributeBase o name X.env (eval o X.env) = eval o X.env := by rfl)
    (hfew : ((backTo cpos (starEach (e :: es) X.env)).all (fun x => !x.1) && (backToKw cpos (keywordEach [] X.env)).all (fun x => x.1.isSome)
      && decide ((e :: es).length + ([] : List Keyword).length + (if ([] : List Keyword).isEmpty then 0 else 1) < 30)) = true := by rfl)
    (hline : (apos.endLine == cpos.line) = true := by rfl) (hs : starEach (e :: es) X.env = (false, eval e X.env) :: starEach es X.env := by rfl) (hplain : (backTo cpos (starEach es X.env)).any (·.1) = false := by rfl) (h : X.K = K := by rfl) :
    PE X (.Call (.Attribute o name apos) (e :: es) [] cpos) (tBM K T r to t) := by
  subst h; exact pe_bm pa slot hty hm ho ha hbase hfew hline hs hplain
theorem kIsi {K : PySem.W.Frag} (h : X.K = K := by rfl) : CallR X (.builtin "isinstance") (rIsi K) := by subst h; exact call_isi
theorem kIsiT {K : PySem.W.Frag} (h : X.K = K := by rfl) : CallR X (.builtin "isinstance") (rIsiT K) := by subst h; exact call_isiT
theorem CallR.or {f : Value} {r r' : List V → Hp → VK → Prop} (a : CallR X f r) (b : CallR X f r') : CallR X f (fun vs H Q => r vs H Q ∨ r' vs H Q) := fun pins s σ H xs us Q I rs h => by
  rcases h with h | h
  · exact a pins s σ H xs us Q I rs h
  · exact b pins s σ H xs us Q I rs h
theorem IxR.or {r r' : R2} (a : IxR X r) (b : IxR X r') : IxR X (fun x y H Q => r x y H Q ∨ r' x y H Q) := fun value slice pins s σ H x y v u Q I rx ry h hs => by
  rcases h with h | h
  · exact a value slice pins s σ H x y v u Q I rx ry h hs
  · exact b value slice pins s σ H x y v u Q I rx ry h hs
theorem pi_or {tg e : Expr} {w1 w2 : TI} (a : PI X tg e w1) (b : PI X tg e w2) : PI X tg e (fun σ H R => w1 σ H R ∨ w2 σ H R) := ⟨fun pins s σ H R I h => by
  rcases h with h | h
  · exact a.run pins s σ H R I h
  · exact b.run pins s σ H R I h⟩
def rLenS : List V → Hp → VK → Prop := fun xs H Q => ∃ z, xs = [.str z] ∧ z.length ≤ sizeLine ∧ Q (.int z.length) H
theorem kLenS : CallR X (.builtin "len") rLenS := call_len_str
def rAddS : R2 := fun x y H Q => ∃ i j, x = .str i ∧ y = .str j ∧ i.length + j.length ≤ sizeLine ∧ Q (.str (i ++ j)) H
theorem kAddS : OpR X (binaryOp .Add) rAddS := op_add_str
def rInS : R2 := fun x y H Q => ∃ (c : Nat) (z : Str), x = .str ⟨#[c]⟩ ∧ y = .str z ∧ Q (.bl (decide (c ∈ z.cps.toList))) H
theorem kInS : OpR X (compareOp .In) rInS := op_in_sign
def rNinS : R2 := fun x y H Q => ∃ (c : Nat) (z : Str), x = .str ⟨#[c]⟩ ∧ y = .str z ∧ Q (.bl (!decide (c ∈ z.cps.toList))) H
theorem kNinS : OpR X (compareOp .NotIn) rNinS := op_notIn_sign
def rStarts : V → List V → Hp → VK → Prop := fun x xs H Q => ∃ a b, x = .str a ∧ xs = [.str b] ∧ Q (.bl (Txt.startswith a b)) H
theorem kStarts : MtR X "str.startswith" rStarts := mt_startswith
def rSplit : V → List V → Hp → VK → Prop := fun x xs H Q => ∃ a b, x = .str a ∧ xs = [.str b] ∧ (b.length == 0) = false ∧ a.length + 2 ≤ sizeLine ∧ rNewStrs (Txt.split a b) H Q
theorem kSplit : MtR X "str.split" rSplit := mt_split
def rJoin (K : PySem.W.Frag) : V → List V → Hp → VK → Prop := fun x xs H Q => ∃ a p, ∃ ys : List Str, x = .str a ∧ xs = [.ref p] ∧ (SqL K H p (ys.map V.str) ∨ SqT K H p (ys.map V.str)) ∧ (ys.map (·.length)).sum + ys.length * a.length ≤ 16777216 ∧ Q (.str (Txt.join a ys)) H
theorem kJoin {K : PySem.W.Frag} (h : X.K = K := by rfl) : MtR X "str.join" (rJoin K) := by subst h; exact mt_join
def rStripC : V → List V → Hp → VK → Prop := fun x xs H Q => ∃ a b, x = .str a ∧ xs = [.str b] ∧ a.length ≤ sizeLine ∧ Q (.str (Txt.stripChars a b)) H
theorem kStripC : MtR X "str.strip" rStripC := mt_stripChars
def rRepS : R2 := fun x y H Q => ∃ (a : Str) (n : Int), x = .str a ∧ y = .int n ∧ 0 ≤ n ∧ n ≤ 100000 ∧ a.length = 1 ∧ Q (.str ⟨(List.replicate n.toNat a.cps.toList).flatten.toArray⟩) H
theorem foldl_app : ∀ (l : List (Array Nat)) (acc : Array Nat), (l.foldl (· ++ ·) acc).toList = acc.toList ++ (l.map Array.toList).flatten
  | [], acc => by simp
  | x :: l, acc => by
    rw [List.foldl_cons, foldl_app l, Array.toList_append, List.map_cons, List.flatten_cons, List.append_assoc]
theorem kRepS : OpR X (binaryOp .Mult) rRepS := by
  intro pins s σ H x y v u Q I rx ry h
  obtain ⟨a, n, rfl, rfl, h0, h1, ha, q⟩ := h
  obtain ⟨t, rfl⟩ := rx
  obtain ⟨t', rfl⟩ := ry
  refine PySem.P.mul_str (by simp; omega) (fun h2 h3 => ?_) (fun h2 h3 => ?_) ?_
  · rw [ha]
    have h2' : 1 ≤ n := by omega
    have : (1 : Int) ≤ (2 ^ 63 - 1) / n := by
      rw [Int.le_ediv_iff_mul_le (by omega)]; omega
    omega
  · rw [ha, Nat.one_mul]
    exact PyProof.Rows.short24 (by omega)
  · split
    · rename_i h2
      have e : n = 0 := by omega
      subst e
      exact ⟨by decide, ⟨.str _, H, I.tok _, ⟨_, rfl⟩, q⟩⟩
    · split
      · rename_i h2 h3
        have e : n = 1 := by
          rw [ha] at h3
          simpa using h3
        subst e
        have e2 : (⟨(List.replicate (Int.toNat 1) a.cps.toList).flatten.toArray⟩ : Str) = a := by
          show (⟨(a.cps.toList ++ []).toArray⟩ : Str) = a
          rw [List.append_nil]
        rw [e2] at q
        exact ⟨.str _, H, I, ⟨_, rfl⟩, q⟩
      · have e2 : (⟨(List.replicate n.toNat a.cps).foldl (· ++ ·) #[]⟩ : Str) = ⟨(List.replicate n.toNat a.cps.toList).flatten.toArray⟩ := by
          refine Str.ext' (Array.toList_inj.mp ?_)
          show ((List.replicate n.toNat a.cps).foldl (· ++ ·) #[]).toList = _
          rw [foldl_app]
          simp
        have hl : (⟨(List.replicate n.toNat a.cps).foldl (· ++ ·) #[]⟩ : Str).length = n.toNat := by
          rw [e2]
          have e3 : a.cps.toList.length = 1 := by simpa [Str.length] using ha
          show ((List.replicate n.toNat a.cps.toList).flatten.toArray).size = _
          rw [List.size_toArray]
          induction n.toNat with
          | zero => rfl
          | succ m ih => rw [List.replicate_succ, List.flatten_cons, List.length_append, ih, e3]; omega
        rw [← e2] at q
        exact ⟨by rw [hl]; exact Nat.le_trans (show n.toNat ≤ 1000000 by omega) (by decide), ⟨.str _, H, I.tok _, ⟨_, rfl⟩, q⟩⟩
theorem kLenU {K : PySem.W.Frag} (h : X.K = K := by rfl) : CallR X (.builtin "len") (fun vs H Q => rLenC K vs H Q ∨ rLenS vs H Q) := by subst h; exact call_len_seq.or call_len_str
theorem kIxU {K : PySem.W.Frag} (h : X.K = K := by rfl) : IxR X (fun x y H Q => rIxL K x y H Q ∨ rIxS x y H Q) := by subst h; exact ix_list.or ix_str
def rIsX : R2 := fun x y H Q => ∃ b : Bool, y = .bl b ∧ (x = .non ∨ ∃ a, x = .bl a) ∧ Q (.bl (decide (x = y))) H
theorem op_isX : OpR X (compareOp .Is) rIsX := by
  intro pins s σ H x y v u Q I rx ry h
  obtain ⟨b, rfl, hx, q⟩ := h
  cases (show u = Value.bool b from ry)
  rcases hx with rfl | ⟨a, rfl⟩
  · cases (show v = Value.none from rx)
    exact wpAny_is_other rfl (fun z => nomatch z) ⟨.bl false, H, I, rfl, by simpa using q⟩
  · cases (show v = Value.bool a from rx)
    by_cases e : a = b
    · subst e
      exact wpAny_is_self rfl ⟨.bl true, H, I, rfl, by simpa using q⟩
    · exact wpAny_is_other rfl (fun z => e (Value.bool.inj z)) ⟨.bl false, H, I, rfl, by simpa [e] using q⟩
theorem cInt : CallR X (.type "int") rIntC := call_int1
theorem cAbs : CallR X (.builtin "abs") rAbsC := call_abs
theorem cLen : CallR X (.builtin "len") (rLenC X.K) := call_len_seq
theorem cList : CallR X (.type "list") (rListC X.K) := call_list_of
end
section
variable {K : PySem.W.Frag} {H H0 : Hp} {Q : VK} {i : Int} {d : Option Addr} {G : List (Addr × HO)} {p : Addr} {xs ys : List V} {v : V} {σ : L2.St} {te ta : TE} {t : TA}
theorem s_int (q : Q (.int i) H) : rIntC [.int i] H Q := .inl ⟨i, rfl, q⟩
theorem s_intB {b : Bool} (q : Q (.int (if b then 1 else 0)) H) : rIntC [.bl b] H Q := .inr ⟨b, rfl, q⟩
theorem s_abs (q : Q (.int (if i < 0 then -i else i)) H) : rAbsC [.int i] H Q := ⟨i, rfl, q⟩
theorem s_len (h : SqL K H p xs) (q : Q (.int xs.length) H) : rLenC K [.ref p] H Q := ⟨p, xs, rfl, .inl h, q⟩
theorem s_lenT (h : SqT K H p xs) (q : Q (.int xs.length) H) : rLenC K [.ref p] H Q := ⟨p, xs, rfl, .inr h, q⟩
theorem s_list (k : Kn d H0 G H) (h : SqL K H p xs) (q : ∀ p H', Kn d H0 ((p, .lst xs) :: G) H' → Q (.ref p) H') : rListC K [.ref p] H Q := ⟨p, xs, rfl, .inl h, fun l hl => q l _ (k.new hl)⟩
theorem s_BM {T : String} {r : V → List V → Hp → VK → Prop} (q : te σ H fun x H1 => tyV K T x H1 ∧ t σ H1 fun xs H2 => r x xs H2 Q) : tBM K T r te t σ H Q := q
theorem s_BM0 {T : String} {r : V → List V → Hp → VK → Prop} (q : te σ H fun x H1 => tyV K T x H1 ∧ r x [] H1 Q) : tBM0 K T r te σ H Q := q
theorem n_ty {P : Prop} (h : SqL K H p xs) (q : P) : tyV K "list" (.ref p) H ∧ P := ⟨.inl ⟨rfl, xs, h⟩, q⟩
theorem a_append (k : Kn d H0 G H) (n : Nat) (h : G[n]? = some (p, .lst xs)) (hz : xs.length < 1000000) (q : ∀ H', Kn d H0 (G.set n (p, .lst (xs ++ [v]))) H' → Q .non H') : rAppend (.ref p) [v] H Q :=
  ⟨p, xs, v, rfl, rfl, k.get n h, Nat.lt_of_lt_of_le hz (by decide), q _ (k.put n h)⟩
theorem a_reverse (k : Kn d H0 G H) (n : Nat) (h : G[n]? = some (p, .lst xs)) (q : ∀ H', Kn d H0 (G.set n (p, .lst xs.reverse)) H' → Q .non H') : rReverse (.ref p) [] H Q :=
  ⟨p, xs, rfl, rfl, k.get n h, q _ (k.put n h)⟩
theorem s_cat {q : Addr} (k : Kn d H0 G H) (h1 : H p = some (.lst xs)) (h2 : H q = some (.lst ys)) (hz : xs.length + ys.length ≤ 1000000) (c : ∀ l H', Kn d H0 ((l, .lst (xs ++ ys)) :: G) H' → Q (.ref l) H') : rCat (.ref p) (.ref q) H Q :=
  ⟨p, q, xs, ys, rfl, rfl, h1, h2, Nat.le_trans hz (by decide), fun l hl => c l _ (k.new hl)⟩
theorem s_slL {lo hi : Option Int} (k : Kn d H0 G H) (h : SqL K H p xs) (c : ∀ l H', Kn d H0 ((l, .lst (cutV xs lo hi)) :: G) H' → Q (.ref l) H') : rSlL K (.ref p) lo hi H Q := ⟨p, xs, rfl, h, fun l hl => c l _ (k.new hl)⟩
theorem kn_sq (k : Kn d H0 G H) (n : Nat) (h : G[n]? = some (p, .lst xs)) : SqL K H p xs := .inl (.inl (k.get n h))
theorem kn_tq (k : Kn d H0 G H) (n : Nat) (h : G[n]? = some (p, .tup xs)) : SqT K H p xs := .inl (.inl (k.get n h))
end
section
variable {K : PySem.W.Frag} {H : Hp} {Q : VK} {σ : L2.St} {ta : TA} {tl te tb' : TE} {tb : TS} {g : TG} {D : Ends} {n : Nat} {tt : TT}
def FR (n : Nat) (tb : TS) (D : Ends) (σ : L2.St) (vs : List V) (H1 : Hp) : Prop := ∃ j : Int, vs = [.int j] ∧ -(2 ^ 62) ≤ j ∧ j < 2 ^ 62 ∧ (fun J H1 => ∃ W : Nat → Nat → L2.St → Hp → Prop, (∃ m, W 0 m σ H1) ∧ ∀ i m σ H, W i m σ H →
  (It.stop J i H ∧ D.nx σ H) ∨ (It.go J i H ∧ ∃ N : L2.St → Hp → Prop, (∀ σ' H', N σ' H' → ∃ m', m' < m ∧ W (i + 1) m' σ' H') ∧ ∀ x H', It.yld J i H x H' → gName n x σ H' fun σ2 H2 => tb { D with nx := N, ct := N, bk := D.nx } σ2 H2)) (Itr 0 j.toNat) H1
theorem s_forR (q : ta σ H fun vs H1 => FR n tb D σ vs H1) : tFor (iRng1 ta) (gName n) tb D σ H := q
theorem n_for {j : Int} (h0 : -1000000 ≤ j) (h1 : j ≤ 1000000) (Pv : Nat → L2.St → Hp → Prop) (p0 : Pv 0 σ H) (ps : ∀ i σ H, i < j.toNat → Pv i σ H → tb { D with nx := Pv (i + 1), ct := Pv (i + 1), bk := D.nx } (σ.set n (some (.int i))) H)
    (pd : ∀ σ H, Pv j.toNat σ H → D.nx σ H) : FR n tb D σ [.int j] H := by
  refine ⟨j, rfl, by omega, by omega, for_range (lo := 0) (n := j.toNat) Pv p0 (fun i σ' H' hi p => ?_) pd⟩
  have e : (0 : Int) + (i : Int) = (i : Int) := Int.zero_add _
  rw [e]
  exact ps i σ' H' hi p
def FR2 (n : Nat) (tb : TS) (D : Ends) (σ : L2.St) (vs : List V) (H1 : Hp) : Prop := ∃ i j : Int, vs = [.int i, .int j] ∧ (-(2 ^ 62) ≤ i ∧ i < 2 ^ 62 ∧ -(2 ^ 62) ≤ j ∧ j < 2 ^ 62) ∧ (fun J H1 => ∃ W : Nat → Nat → L2.St → Hp → Prop, (∃ m, W 0 m σ H1) ∧ ∀ i m σ H, W i m σ H →
  (It.stop J i H ∧ D.nx σ H) ∨ (It.go J i H ∧ ∃ N : L2.St → Hp → Prop, (∀ σ' H', N σ' H' → ∃ m', m' < m ∧ W (i + 1) m' σ' H') ∧ ∀ x H', It.yld J i H x H' → gName n x σ H' fun σ2 H2 => tb { D with nx := N, ct := N, bk := D.nx } σ2 H2)) (Itr i (j - i).toNat) H1
theorem s_forR2 (q : ta σ H fun vs H1 => FR2 n tb D σ vs H1) : tFor (iRng2 ta) (gName n) tb D σ H := q
theorem n_for2 {lo j : Int} (h0 : -1000000 ≤ lo) (h0' : lo ≤ 1000000) (h1 : -1000000 ≤ j) (h1' : j ≤ 1000000) (Pv : Nat → L2.St → Hp → Prop) (p0 : Pv 0 σ H) (ps : ∀ i σ H, i < (j - lo).toNat → Pv i σ H → tb { D with nx := Pv (i + 1), ct := Pv (i + 1), bk := D.nx } (σ.set n (some (.int (lo + i)))) H)
    (pd : ∀ σ H, Pv (j - lo).toNat σ H → D.nx σ H) : FR2 n tb D σ [.int lo, .int j] H :=
  ⟨lo, j, rfl, by omega, for_range (lo := lo) (n := (j - lo).toNat) Pv p0 (fun i σ' H' hi p => ps i σ' H' hi p) pd⟩
def FL (K : PySem.W.Frag) (g : TG) (tb : TS) (D : Ends) (σ : L2.St) (x : V) (H1 : Hp) : Prop := ∃ a, x = .ref a ∧ (∃ xs, SqL K H1 a xs) ∧ (fun J H1 => ∃ W : Nat → Nat → L2.St → Hp → Prop, (∃ m, W 0 m σ H1) ∧ ∀ i m σ H, W i m σ H →
  (It.stop J i H ∧ D.nx σ H) ∨ (It.go J i H ∧ ∃ N : L2.St → Hp → Prop, (∀ σ' H', N σ' H' → ∃ m', m' < m ∧ W (i + 1) m' σ' H') ∧ ∀ x H', It.yld J i H x H' → g x σ H' fun σ2 H2 => tb { D with nx := N, ct := N, bk := D.nx } σ2 H2)) (Itl K a) H1
theorem s_forL (q : tl σ H fun x H1 => FL K g tb D σ x H1) : tFor (iList K tl) g tb D σ H := q
theorem n_forL {a : Addr} {xs : List V} (h : SqL K H a xs) (Pv : Nat → L2.St → Hp → Prop) (p0 : Pv 0 σ H) (pl : ∀ i σ H, i ≤ xs.length → Pv i σ H → SqL K H a xs)
    (ps : ∀ i x σ H, xs[i]? = some x → Pv i σ H → g x σ H fun σ2 H2 => tb { D with nx := Pv (i + 1), ct := Pv (i + 1), bk := D.nx } σ2 H2) (pd : ∀ σ H, Pv xs.length σ H → D.nx σ H) : FL K g tb D σ (.ref a) H :=
  ⟨a, rfl, ⟨xs, h⟩, for_list (xs := xs) Pv p0 pl ps pd⟩
def FT (K : PySem.W.Frag) (g : TG) (tb : TS) (D : Ends) (σ : L2.St) (x : V) (H1 : Hp) : Prop := ∃ a, x = .ref a ∧ (∃ xs, SqT K H1 a xs) ∧ (fun J H1 => ∃ W : Nat → Nat → L2.St → Hp → Prop, (∃ m, W 0 m σ H1) ∧ ∀ i m σ H, W i m σ H →
  (It.stop J i H ∧ D.nx σ H) ∨ (It.go J i H ∧ ∃ N : L2.St → Hp → Prop, (∀ σ' H', N σ' H' → ∃ m', m' < m ∧ W (i + 1) m' σ' H') ∧ ∀ x H', It.yld J i H x H' → g x σ H' fun σ2 H2 => tb { D with nx := N, ct := N, bk := D.nx } σ2 H2)) (Itt K a) H1
theorem s_forT (q : tl σ H fun x H1 => FT K g tb D σ x H1) : tFor (iTup K tl) g tb D σ H := q
theorem n_forT {a : Addr} {xs : List V} (h : SqT K H a xs) (Pv : Nat → L2.St → Hp → Prop) (p0 : Pv 0 σ H) (pl : ∀ i σ H, i ≤ xs.length → Pv i σ H → SqT K H a xs)
    (ps : ∀ i x σ H, xs[i]? = some x → Pv i σ H → g x σ H fun σ2 H2 => tb { D with nx := Pv (i + 1), ct := Pv (i + 1), bk := D.nx } σ2 H2) (pd : ∀ σ H, Pv xs.length σ H → D.nx σ H) : FT K g tb D σ (.ref a) H :=
  ⟨a, rfl, ⟨xs, h⟩, for_tup (xs := xs) Pv p0 pl ps pd⟩
theorem s_ifJ {R : V → Hp → Prop} (h : ∀ Q' : VK, (∀ v H', R v H' → Q' v H') → tIf tt te tb' σ H Q') (q : ∀ v H', R v H' → Q v H') : tIf tt te tb' σ H Q := h Q q
end
theorem cmul_b {i : Int} {b : Bool} : CMul i (if b = true then 1 else 0) := .inr (by cases b <;> decide)
section
variable {K : PySem.W.Frag} {H H0 : Hp} {Q : VK} {QS : L2.St → Hp → Prop} {σ : L2.St} {te to tl th : TE} {ta : TA} {tt : TT} {d : Option Addr} {G : List (Addr × HO)} {p q : Addr} {xs ys : List V} {v : V} {n j : Nat} {t : TGs} {g : TG} {us : TGs} {i : Int}
theorem wipe1 {σ : L2.St} {j : Nat} (x : Option V) : wipe ((wipe σ [j]).set j x) [j] = wipe σ [j] := by
  show ((σ.set j none).set j x).set j none = σ.set j none
  rw [List.set_set, List.set_set]
/-- [e for x in range(n) if t] -/
def CR (j : Nat) (tt : TT) (te : TE) (σ : L2.St) (Q : VK) (vs : List V) (H1 : Hp) : Prop := ∃ n : Int, vs = [.int n] ∧ -(2 ^ 62) ≤ n ∧ n < 2 ^ 62 ∧ (fun J H1 => ∀ D, H1 D = none → ∃ W : Nat → Nat → Hp → Prop, (∃ m, W 0 m (upd H1 D (.lst []))) ∧ ∀ i m H, W i m H →
  (It.stop J i H ∧ Q (.ref D) H) ∨ (It.go J i H ∧ ∃ Nx : Hp → Prop, (∀ H', Nx H' → ∃ m', m' < m ∧ W (i + 1) m' H') ∧ ∀ x H', It.yld J i H x H' → gName j x (wipe σ [j]) H' fun σ2 H2 => wipe σ2 [j] = wipe σ [j] ∧ tt σ2 H2 fun b H3 =>
    if b = true then te σ2 H3 fun y H4 => ∃ acc, H4 D = some (.lst acc) ∧ acc.length < sizeLine ∧ Nx (upd H4 D (.lst (acc ++ [y]))) else Nx H3)) (Itr 0 n.toNat) H1
theorem s_lcR (q : ta σ H fun vs H1 => CR j tt te σ Q vs H1) : tLc (iRng1 ta) (gName j) tt te [j] σ H Q := q
/-- no test: the list so far, and what is known of it -/
theorem n_lcR {n : Int} (h0 : 0 ≤ n) (h1 : n ≤ 100000) (k : Kn d H0 G H) (R : Nat → List V → Prop) (r0 : R 0 [])
    (rs : ∀ i acc D H2, i < n.toNat → R i acc → Kn d H0 ((D, .lst acc) :: G) H2 → ∀ Q' : VK, (∀ y H3, R (i + 1) (acc ++ [y]) → Kn d H0 ((D, .lst acc) :: G) H3 → Q' y H3) → te ((wipe σ [j]).set j (some (.int i))) H2 Q')
    (rl : ∀ i acc, R i acc → acc.length ≤ i) (rd : ∀ acc D H2, R n.toNat acc → Kn d H0 ((D, .lst acc) :: G) H2 → Q (.ref D) H2) : CR j tYes te σ Q [.int n] H := by
  refine ⟨n, rfl, by omega, by omega, fun D hD => ?_⟩
  refine lc_range (lo := 0) (n := n.toNat) (fun i H2 => ∃ acc, R i acc ∧ Kn d H0 ((D, .lst acc) :: G) H2) ⟨[], r0, k.new hD⟩ (fun i H2 hi ⟨acc, ra, ka⟩ => ?_) (fun H2 ⟨acc, ra, ka⟩ => rd acc D H2 ra ka)
  have e0 : (0 : Int) + (i : Int) = (i : Int) := Int.zero_add _
  rw [e0]
  refine ⟨wipe1 _, ?_⟩
  show te ((wipe σ [j]).set j (some (.int i))) H2 _
  refine rs i acc D H2 hi ra ka _ fun y H3 r1 k1 => ?_
  exact ⟨acc, k1.get 0 rfl, Nat.lt_of_le_of_lt (rl i acc ra) (Nat.lt_of_lt_of_le (show i < 100001 by omega) (by decide)), _, r1, k1.put 0 rfl⟩
/-- [e for x in xs if t] -/
def CL (K : PySem.W.Frag) (g : TG) (vs : List Nat) (tt : TT) (te : TE) (σ : L2.St) (Q : VK) (x : V) (H1 : Hp) : Prop := ∃ a, x = .ref a ∧ (∃ xs, SqL K H1 a xs) ∧ (fun J H1 => ∀ D, H1 D = none → ∃ W : Nat → Nat → Hp → Prop, (∃ m, W 0 m (upd H1 D (.lst []))) ∧ ∀ i m H, W i m H →
  (It.stop J i H ∧ Q (.ref D) H) ∨ (It.go J i H ∧ ∃ Nx : Hp → Prop, (∀ H', Nx H' → ∃ m', m' < m ∧ W (i + 1) m' H') ∧ ∀ x H', It.yld J i H x H' → g x (wipe σ vs) H' fun σ2 H2 => wipe σ2 vs = wipe σ vs ∧ tt σ2 H2 fun b H3 =>
    if b = true then te σ2 H3 fun y H4 => ∃ acc, H4 D = some (.lst acc) ∧ acc.length < sizeLine ∧ Nx (upd H4 D (.lst (acc ++ [y]))) else Nx H3)) (Itl K a) H1
theorem s_lcL {vs : List Nat} (q : te σ H fun x H1 => CL K g vs tt tl σ Q x H1) : tLc (iList K te) g tt tl vs σ H Q := q
/-- over a list, with a test or without; R: what is known of the list so far -/
theorem n_lcL {a : Addr} {xs : List V} (hx : SqL K H a xs) (h1 : xs.length ≤ 100000) (k : Kn d H0 G H) (hst : ∀ D acc H2, Kn d H0 ((D, .lst acc) :: G) H2 → SqL K H2 a xs) (R : Nat → List V → Prop) (r0 : R 0 [])
    (rs : ∀ i x acc D H2, xs[i]? = some x → R i acc → Kn d H0 ((D, .lst acc) :: G) H2 → ∀ Q' : Bool → Hp → Prop, (∀ b H3, Kn d H0 ((D, .lst acc) :: G) H3 → (b = false → R (i + 1) acc) →
      (b = true → ∀ Q'' : VK, (∀ y H4, R (i + 1) (acc ++ [y]) → Kn d H0 ((D, .lst acc) :: G) H4 → Q'' y H4) → te ((wipe σ [j]).set j (some x)) H3 Q'') → Q' b H3) → tt ((wipe σ [j]).set j (some x)) H2 Q')
    (rl : ∀ i acc, R i acc → acc.length ≤ i) (rd : ∀ acc D H2, R xs.length acc → Kn d H0 ((D, .lst acc) :: G) H2 → Q (.ref D) H2) : CL K (gName j) [j] tt te σ Q (.ref a) H := by
  refine ⟨a, rfl, ⟨xs, hx⟩, fun D hD => ?_⟩
  refine lc_list (xs := xs) (fun i H2 => ∃ acc, R i acc ∧ Kn d H0 ((D, .lst acc) :: G) H2) ⟨[], r0, k.new hD⟩ (fun i H2 hi ⟨acc, ra, ka⟩ => hst D acc H2 ka) (fun i x H2 hi ⟨acc, ra, ka⟩ => ?_) (fun H2 ⟨acc, ra, ka⟩ => rd acc D H2 ra ka)
  have hi' : i < xs.length := (List.getElem?_eq_some_iff.mp hi).1
  refine ⟨wipe1 _, ?_⟩
  show tt ((wipe σ [j]).set j (some x)) H2 _
  refine rs i x acc D H2 hi ra ka _ fun b H3 k3 hf ht => ?_
  cases b with
  | false => exact iteF ⟨acc, hf rfl, k3⟩
  | true =>
    refine iteT (ht rfl _ fun y H4 r1 k1 => ?_)
    exact ⟨acc, k1.get 0 rfl, Nat.lt_of_le_of_lt (rl i acc ra) (Nat.lt_of_lt_of_le (show i < 100001 by omega) (by decide)), _, r1, k1.put 0 rfl⟩
theorem s_gTup (h : SqT K H p xs) (hl : xs.length = n) (q : t xs σ H QS) : gTup K n t (.ref p) σ H QS := ⟨p, xs, rfl, h, hl, q⟩
theorem s_gLst (h : SqL K H p xs) (hl : xs.length = n) (q : t xs σ H QS) : gLst K n t (.ref p) σ H QS := ⟨p, xs, rfl, h, hl, q⟩
theorem s_gCons (q : g v σ H fun σ' H' => us xs σ' H' QS) : gCons g us (v :: xs) σ H QS := ⟨v, xs, rfl, q⟩
theorem s_gNil (q : QS σ H) : gNil [] σ H QS := ⟨rfl, q⟩
theorem s_gSub {ts : TSet} (q : to σ H fun o H1 => tl σ H1 fun i H2 => ts o i v H2 fun H3 => QS σ H3) : gSub to tl ts v σ H QS := q
theorem a_set {QH : Hp → Prop} (k : Kn d H0 G H) (n : Nat) (h : G[n]? = some (p, .lst xs)) (hi : ixN xs.length i = some j) (q : ∀ H', Kn d H0 (G.set n (p, .lst (xs.set j v))) H' → QH H') : rSetL (.ref p) (.int i) v H QH :=
  ⟨p, xs, i, j, rfl, rfl, k.get n h, hi, q _ (k.put n h)⟩
theorem ixN_nat {n j : Nat} (h : j < n) : ixN n (j : Int) = some j := by
  unfold ixN
  rw [if_pos (Int.natCast_nonneg j), if_pos (by omega)]; rfl
theorem ixN_of {n j : Nat} {i : Int} (e : i = (j : Int)) (h : j < n) : ixN n i = some j := by rw [e]; exact ixN_nat h
theorem s_par {i j : Nat} {D : Ends} (q : ta σ H fun vs H1 => ∃ v w, vs = [v, w] ∧ D.nx ((σ.set i (some v)).set j (some w)) H1) : tPar i j ta D σ H := q
theorem s_vw {P : V → V → Prop} {a b : V} (q : P a b) : ∃ v w, [a, b] = [v, w] ∧ P v w := ⟨a, b, rfl, q⟩
/-- a slice of a list is replaced by another list -/
def gSlc (to tl th : TE) : TG := fun v σ H Q => to σ H fun o H1 => tl σ H1 fun a H2 => th σ H2 fun c H3 => ∃ l b xs ys i j, o = .ref l ∧ v = .ref b ∧ a = .int i ∧ c = .int j ∧
  H3 l = some (.lst xs) ∧ H3 b = some (.lst ys) ∧ l ≠ b ∧ 0 ≤ i ∧ i ≤ j ∧ j ≤ xs.length ∧ xs.length + ys.length ≤ sizeLine ∧ Q σ (upd H3 l (.lst (xs.take i.toNat ++ ys ++ xs.drop j.toNat)))
theorem pg_slc {X : Cx} {o lo hi : Expr} {to tl th : TE} {pos p2 : Pos} (ho : PE X o to) (hl : PE X lo tl) (hh : PE X hi th)
    (ha : ∀ v, assign (.Subscript o (.Slice (some lo) (some hi) none p2) pos) X.env v = (do
      let ov ← holding [v] (eval o X.env)
      let iv ← holding [v, ov] (eval (.Slice (some lo) (some hi) none p2) X.env)
      standAt pos
      holding [v, ov, iv] (setItem ov iv v)
      release [iv, v, ov] []) := by intro _; rfl) : PG X (.Subscript o (.Slice (some lo) (some hi) none p2) pos) (gSlc to tl th) := by
  refine ⟨fun pins s σ H v u Q I r h => ?_⟩
  rw [ha]
  refine wpAny_bind (wpAny_holding (thn (ho.run pins s σ H _ I h) fun ov s1 ⟨x, H1, I1, r1, q1⟩ => ?_))
  refine wpAny_bind (wpAny_holding (wpAny_Slice ?_))
  rw [evalPart_some]
  refine thn (hl.run pins s1 σ H1 _ I1 q1) fun vl s2 ⟨a, H2, I2, ra, q2⟩ => ?_
  rw [evalPart_some]
  refine thn (hh.run pins s2 σ H2 _ I2 q2) fun vu s3 ⟨c, H3, I3, rc, q3⟩ => ?_
  rw [evalPart_none]
  refine wpAny_pure ?_
  obtain ⟨l, b, xs, ys, i, j, rfl, rfl, rfl, rfl, hH, hB, hne, h0, hij, hj, hz, q⟩ := q3
  cases r1
  cases r
  have I4 : Inv X pins σ H3 { s3 with heap := s3.heap.push { cls := .type "slice", data := .fields #[vl, vu, .none] } } := I3.kept (t' := s3.toks) fun b ob q => Heap.get?_push_of_some _ q
  refine wpAny_bind (wpAny_standAt (wpAny_bind (wpAny_holding (set_slice I4 hH hB hne (Heap.IsSliceOf.new ..) ra rc h0 hij hj hz fun s4 I5 => ?_))))
  exact wpAny_release ⟨σ, _, I5, q⟩
theorem s_slc {QS : L2.St → Hp → Prop} (q : to σ H fun o H1 => tl σ H1 fun a H2 => th σ H2 fun c H3 => ∃ l b xs ys i j, o = .ref l ∧ v = .ref b ∧ a = .int i ∧ c = .int j ∧
  H3 l = some (.lst xs) ∧ H3 b = some (.lst ys) ∧ l ≠ b ∧ 0 ≤ i ∧ i ≤ j ∧ j ≤ xs.length ∧ xs.length + ys.length ≤ sizeLine ∧ QS σ (upd H3 l (.lst (xs.take i.toNat ++ ys ++ xs.drop j.toNat)))) : gSlc to tl th v σ H QS := q
theorem s_ne_same {x y : V} (e : PyData) (hx : Dp K H x e) (hy : Dp K H y e) (sd : SeqAt.shaped e = true) (q : Q (.bl false) H) : rNeD K x y H Q :=
  ⟨e, e, hx, hy, sd, sd, by rw [PySem.SeqAt.eqv_refl e (SeqAt.canLay_of_shaped sd)]; exact q⟩
theorem s_eq_same {x y : V} (e : PyData) (hx : Dp K H x e) (hy : Dp K H y e) (sd : SeqAt.shaped e = true) (q : Q (.bl true) H) : rEqD K x y H Q :=
  ⟨e, e, hx, hy, sd, sd, by rw [PySem.SeqAt.eqv_refl e (SeqAt.canLay_of_shaped sd)]; exact q⟩
theorem dp_t2 {a b : Int} (h : SqT K H p [.int a, .int b]) : Dp K H (.ref p) (.tuple [.int a, .int b]) := .tup h (.cons (.int a) (.cons (.int b) .nil))
theorem s_sum {ns : List Int} (h : SqL K H p (ns.map V.int)) (q : Q (.int ns.sum) H) : rSum K [.ref p] H Q := ⟨p, ns, rfl, h, q⟩
theorem s_rep {k : Int} (kn : Kn d H0 G H) (h : H p = some (.lst xs)) (h0 : 0 ≤ k) (h1 : k ≤ 100000) (hz : xs.length ≤ 10) (c : ∀ l H', Kn d H0 ((l, .lst (List.replicate k.toNat xs).flatten) :: G) H' → Q (.ref l) H') : rRep (.ref p) (.int k) H Q :=
  ⟨p, k, xs, rfl, rfl, h, by omega, by omega, by
    have : xs.length * k.toNat ≤ 10 * 100000 := Nat.mul_le_mul hz (by omega)
    exact Nat.le_trans this (by decide), fun l hl => c l _ (kn.new hl)⟩
end
section
variable {X : Cx}
theorem pe_lcK {elt tg iter : Expr} {ifs : List Expr} {scope : Scope} {own : List (Str × Nat)} {pos : Pos} {wi : TI} {g : TG} {tt : TT} {te : TE} {vs : List Nat} (hv : own.map (·.2) = vs) (hc : X.calm = true) (hN : X.N.Nodup) (hi : PI X tg iter wi) (ok : BlkOk X.N X.env.scope scope own)
    (hg : ∀ (s : Shared) (H : Hp) (C : Addr) (cl : List (Str × Addr)) (fp : List Addr), PG (X.blk s H scope (compEnvC scope cl C X.env) fp) tg g) (ht : ∀ (s : Shared) (H : Hp) (C : Addr) (cl : List (Str × Addr)) (fp : List Addr), PTs (X.blk s H scope (compEnvC scope cl C X.env) fp) ifs tt)
    (he : ∀ (s : Shared) (H : Hp) (C : Addr) (cl : List (Str × Addr)) (fp : List Addr), PE (X.blk s H scope (compEnvC scope cl C X.env) fp) elt te) (hs : ∀ x, foldedSetIterable iter X.env x = pure x := by intro _; rfl) :
    PE X (.ListComp elt [⟨tg, iter, ifs, 0⟩] scope pos) (tLc wi g tt te vs) := by
  subst hv; exact pe_lc hc hN hi ok hg ht he hs
theorem ps_setLcK {i : Nat} {y : Str} {py : Pos} {elt tg iter : Expr} {ifs : List Expr} {scope : Scope} {own : List (Str × Nat)} {pos spos : Pos} {wi : TI} {g : TG} {tt : TT} {te : TE} {vs : List Nat} (hv : own.map (·.2) = vs) (hc : X.calm = true) (hN : X.N.Nodup) (hy : X.N[i]? = some y) (hyl : X.env.scope.names.lookup y = some .local)
    (hsw : swapsWith (.ListComp elt [⟨tg, iter, ifs, 0⟩] scope pos) (some (.Name y py)) spos.line X.env = pure true) (hi : PI X tg iter wi) (ok : BlkOk X.N X.env.scope scope own)
    (hg : ∀ (s : Shared) (H : Hp) (C : Addr) (cl : List (Str × Addr)) (fp : List Addr), PG (X.blk s H scope (compEnvC scope cl C X.env) fp) tg g) (ht : ∀ (s : Shared) (H : Hp) (C : Addr) (cl : List (Str × Addr)) (fp : List Addr), PTs (X.blk s H scope (compEnvC scope cl C X.env) fp) ifs tt)
    (he : ∀ (s : Shared) (H : Hp) (C : Addr) (cl : List (Str × Addr)) (fp : List Addr), PE (X.blk s H scope (compEnvC scope cl C X.env) fp) elt te) (hs : ∀ x, foldedSetIterable iter X.env x = pure x := by intro _; rfl) :
    PS X (.Assign [.Name y py] (.ListComp elt [⟨tg, iter, ifs, 0⟩] scope pos) spos) (tAsg (tLc wi g tt te vs) (gName i)) := by
  subst hv; exact ps_setLc hc hN hy hyl hsw hi ok hg ht he hs
end
section
variable {K : PySem.W.Frag} {H H0 : Hp} {QS : L2.St → Hp → Prop} {σ : L2.St} {d : Option Addr} {G : List (Addr × HO)} {l b : Addr} {xs ys : List V} {o u : HO} {i j : Nat} {x y : Int}
theorem Kn.ne (k : Kn d H0 G H) (i j : Nat) (h : G[i]? = some (l, o)) (h' : G[j]? = some (b, u)) (ij : i ≠ j) : l ≠ b := fun z => ij (nd_ix k.nd (x := l) (by rw [List.getElem?_map, h]; rfl) (by rw [List.getElem?_map, h', z]; rfl))
theorem Kn.sub (k : Kn d H0 G H) {G' : List (Addr × HO)} (s : G'.Sublist G) : Kn d H0 G' H :=
  ⟨k.keep, k.dk, k.dk0, k.nd.sublist (s.map _), fun e he => k.nw e (s.subset he), fun e he => k.at_ e (s.subset he)⟩
theorem a_slc (k : Kn d H0 G H) (n m : Nat) (h : G[n]? = some (l, .lst xs)) (h' : G[m]? = some (b, .lst ys)) (nm : n ≠ m) (ex : x = (i : Int)) (ey : y = (j : Int)) (hij : i ≤ j) (hj : j ≤ xs.length) (hz : xs.length + ys.length ≤ 1000000)
    (q : ∀ H', Kn d H0 (G.set n (l, .lst (xs.take i ++ ys ++ xs.drop j))) H' → QS σ H') :
    ∃ l' b' xs' ys' i' j', V.ref l = .ref l' ∧ V.ref b = .ref b' ∧ V.int x = .int i' ∧ V.int y = .int j' ∧ H l' = some (.lst xs') ∧ H b' = some (.lst ys') ∧ l' ≠ b' ∧ 0 ≤ i' ∧ i' ≤ j' ∧ j' ≤ xs'.length ∧ xs'.length + ys'.length ≤ sizeLine ∧
      QS σ (upd H l' (.lst (xs'.take i'.toNat ++ ys' ++ xs'.drop j'.toNat))) := by
  subst ex; subst ey
  exact ⟨l, b, xs, ys, i, j, rfl, rfl, rfl, rfl, k.get n h, k.get m h', k.ne n m h h' nm, by omega, by omega, by omega, Nat.le_trans hz (by decide), q _ (k.put n h)⟩
end
/-! ### order and equality of lists of ints -/
def llt : List Int → List Int → Bool
  | x :: xs, y :: ys => if x = y then llt xs ys else decide (x < y)
  | _, _ => false
def rLtL (K : PySem.W.Frag) : R2 := fun x y H Q => ∃ (a b : Addr) (ns ms : List Int), x = .ref a ∧ y = .ref b ∧ SqL K H a (ns.map V.int) ∧ SqL K H b (ms.map V.int) ∧ ns.length = ms.length ∧ Q (.bl (llt ns ms)) H
theorem firstLt_llt : ∀ (ns ms : List Int) (k : Nat), ns.length = ms.length → ∀ (e r : Nat → Bool), (∀ j, j < ns.length → e (k + j) = decide (ns.getD j 0 = ms.getD j 0)) → (∀ j, j < ns.length → r (k + j) = decide (ns.getD j 0 < ms.getD j 0)) →
    SeqAt.firstLt e r false ((List.range ns.length).map (k + ·)) = llt ns ms
  | [], [], _, _, _, _, _, _ => rfl
  | x :: xs, y :: ys, k, hl, e, r, he, hr => by
    have hl' : xs.length = ys.length := by simpa using hl
    rw [List.length_cons, List.range_succ_eq_map, List.map_cons, List.map_map]
    have e0 := he 0 (by simp)
    have r0 := hr 0 (by simp)
    simp only [Nat.add_zero, List.getD_cons_zero] at e0 r0
    show (if e (k + 0) = true then _ else r (k + 0)) = if x = y then llt xs ys else decide (x < y)
    rw [Nat.add_zero, e0, r0]
    by_cases h : x = y
    · rw [if_pos (decide_eq_true h), if_pos h]
      have ih := firstLt_llt xs ys (k + 1) hl' e r (fun j hj => by have := he (j + 1) (by simpa using hj); rw [show k + 1 + j = k + (j + 1) by omega, this]; simp) (fun j hj => by have := hr (j + 1) (by simpa using hj); rw [show k + 1 + j = k + (j + 1) by omega, this]; simp)
      rw [← ih]
      congr 1
      refine List.map_congr_left fun j _ => ?_
      show k + (j + 1) = k + 1 + j
      omega
    · rw [if_neg (by simp [h]), if_neg h]
section
variable {X : Cx}
theorem kLtL {K : PySem.W.Frag} (hu : X.A.units < cLine) (h : X.K = K := by rfl) : OpR X (compareOp .Lt) (rLtL K) := by
  subst h
  intro pins s σ H x y v u Q I rx ry h
  obtain ⟨a, b, ns, ms, rfl, rfl, ha, hb, hl, q⟩ := h
  cases rx
  cases ry
  obtain ⟨its, r1, p1, _⟩ := I.list ha
  obtain ⟨its2, r2, p2, _⟩ := I.list hb
  have i1 : IntsAre its ns := Vals.ints r1
  have i2 : IntsAre its2 ms := Vals.ints r2
  have e1 : its.toArray.size = ns.length := by rw [List.size_toArray]; exact i1.length
  have e2 : its2.toArray.size = ms.length := by rw [List.size_toArray]; exact i2.length
  have at1 : ∀ j (h1 : j < its.toArray.size), ∃ t, its.toArray[j] = .int (ns.getD j 0) t := fun j h1 => PyProof.Rows.IntsAre.int_at i1 _ _ (by simp at h1; simp [h1])
  have at2 : ∀ j (h1 : j < its2.toArray.size), ∃ t, its2.toArray[j] = .int (ms.getD j 0) t := fun j h1 => PyProof.Rows.IntsAre.int_at i2 _ _ (by simp at h1; simp [h1])
  have R := SeqAt.RcLt.lists (A := X.A) (s := s) (e := fun j => decide (ns.getD j 0 = ms.getD j 0)) (r := fun j => decide (ns.getD j 0 < ms.getD j 0)) p1.isList p2.isList hu (fun j h1 h2 => by
    obtain ⟨t, et⟩ := at1 j h1
    obtain ⟨t', et'⟩ := at2 j h2
    rw [et, et']
    have z : (ns.getD j 0 == ms.getD j 0) = decide (ns.getD j 0 = ms.getD j 0) := by
      by_cases q : ns.getD j 0 = ms.getD j 0
      · rw [decide_eq_true q]; exact beq_iff_eq.mpr q
      · rw [decide_eq_false q]; exact beq_eq_false_iff_ne.mpr q
    rw [← z]
    exact SeqAt.EqAt.int_int _ _ _ _) (fun j h1 h2 _ => by
    obtain ⟨t, et⟩ := at1 j h1
    obtain ⟨t', et'⟩ := at2 j h2
    rw [et, et']
    exact fun prog w E Q h => PyProof.Rows.lt_int h)
  rw [e1, e2, hl, Nat.min_self, decide_eq_false (Nat.lt_irrefl _)] at R
  have hf := firstLt_llt ns ms 0 hl _ _ (fun j _ => by rw [Nat.zero_add]) (fun j _ => by rw [Nat.zero_add])
  rw [hl, show (List.range ms.length).map (0 + ·) = List.range ms.length by simp] at hf
  rw [hf] at R
  exact R X.prog X.w X.xe (EP X pins σ Q) ⟨.bl _, H, I, rfl, q⟩
end
theorem canLay_ints : ∀ ns : List Int, PyData.canLayAll0 (ns.map PyData.int) = true
  | [] => rfl
  | n :: ns => by
    show (true && PyData.canLayAll0 (ns.map PyData.int)) = true
    rw [canLay_ints ns]; rfl
theorem eqvAll_ints : ∀ ns ms : List Int, PyData.eqvAll (ns.map PyData.int) (ms.map PyData.int) = decide (ns = ms)
  | [], [] => rfl
  | [], m :: ms => by simp [PyData.eqvAll]
  | n :: ns, [] => by simp [PyData.eqvAll]
  | n :: ns, m :: ms => by
    show ((n == m) && PyData.eqvAll (ns.map PyData.int) (ms.map PyData.int)) = _
    rw [eqvAll_ints ns ms]
    by_cases h : n = m <;> by_cases h' : ns = ms <;> simp [h, h']
section
variable {K : PySem.W.Frag} {H H0 : Hp} {Q : VK} {QB : Bool → Hp → Prop} {σ : L2.St} {te ta tb tc : TE} {d : Option Addr} {G : List (Addr × HO)} {p q : Addr} {xs : List V} {ns ms : List Int} {r r' : R2}
theorem dp_ints : ∀ {ns : List Int}, DpAll K H (ns.map V.int) (ns.map PyData.int)
  | [] => .nil
  | n :: _ => .cons (.int n) dp_ints
theorem dp_il (h : SqL K H p (ns.map V.int)) : Dp K H (.ref p) (.list (ns.map PyData.int)) := .lst h dp_ints
theorem shaped_ints : SeqAt.shaped (.list (ns.map PyData.int)) = true := by
  have h : PyData.depthAll (ns.map PyData.int) ≤ 1 := by
    induction ns with
    | nil => exact Nat.zero_le _
    | cons n ns ih => exact Nat.max_le.mpr ⟨by simp only [PyData.depth]; omega, ih⟩
  unfold SeqAt.shaped
  rw [Bool.and_eq_true]
  refine ⟨canLay_ints ns, decide_eq_true ?_⟩
  show PyData.depthAll _ + 1 ≤ 64
  omega
theorem s_neL (h1 : SqL K H p (ns.map V.int)) (h2 : SqL K H q (ms.map V.int)) (c : Q (.bl (!decide (ns = ms))) H) : rNeD K (.ref p) (.ref q) H Q :=
  ⟨_, _, dp_il h1, dp_il h2, shaped_ints, shaped_ints, by rw [show PyData.eqv (.list (ns.map PyData.int)) (.list (ms.map PyData.int)) = decide (ns = ms) from eqvAll_ints ns ms]; exact c⟩
theorem s_eqL (h1 : SqL K H p (ns.map V.int)) (h2 : SqL K H q (ms.map V.int)) (c : Q (.bl (decide (ns = ms))) H) : rEqD K (.ref p) (.ref q) H Q :=
  ⟨_, _, dp_il h1, dp_il h2, shaped_ints, shaped_ints, by rw [show PyData.eqv (.list (ns.map PyData.int)) (.list (ms.map PyData.int)) = decide (ns = ms) from eqvAll_ints ns ms]; exact c⟩
theorem s_eqB {a b : Bool} (c : Q (.bl (decide (a = b))) H) : rEq (.bl a) (.bl b) H Q := ⟨rfl, by rw [show decide (V.bl a = V.bl b) = decide (a = b) by simp]; exact c⟩
theorem s_neB {a b : Bool} (c : Q (.bl (!decide (a = b))) H) : rNe (.bl a) (.bl b) H Q := ⟨rfl, by rw [show decide (V.bl a = V.bl b) = decide (a = b) by simp]; exact c⟩
theorem s_eqS {a b : Str} (c : Q (.bl (decide (a = b))) H) : rEq (.str a) (.str b) H Q := ⟨rfl, by rw [show decide (V.str a = V.str b) = decide (a = b) by simp]; exact c⟩
theorem s_neS {a b : Str} (c : Q (.bl (!decide (a = b))) H) : rNe (.str a) (.str b) H Q := ⟨rfl, by rw [show decide (V.str a = V.str b) = decide (a = b) by simp]; exact c⟩
theorem s_chain (c : ta σ H fun x H1 => tb σ H1 fun y H2 => r x y H2 fun z H3 => ∃ k, z = .bl k ∧ (if k = true then tc σ H3 fun w' H4 => r' y w' H4 Q else Q (.bl false) H3)) : tChain r r' ta tb tc σ H Q := c
def rRevV (K : PySem.W.Frag) (x : V) (H : Hp) (Q : VK) : Prop := ∃ a xs, x = .ref a ∧ SqL K H a xs ∧ ∀ p, H p = none → Q (.ref p) (upd H p (.lst xs.reverse))
theorem s_rev (c : te σ H fun x H1 => rRevV K x H1 Q) : tRevL K te σ H Q := c
theorem n_rev (k : Kn d H0 G H) (h : SqL K H p xs) (c : ∀ l H', Kn d H0 ((l, .lst xs.reverse) :: G) H' → Q (.ref l) H') : rRevV K (.ref p) H Q := ⟨p, xs, rfl, h, fun l hl => c l _ (k.new hl)⟩
theorem s_kd {w : World} {z : Str} {v : V} (h : KDct K w p z v) (c : Q v H) : rIxD K w (.ref p) (.str z) H Q := ⟨p, z, v, rfl, rfl, h, c⟩
theorem s_ltL (h1 : SqL K H p (ns.map V.int)) (h2 : SqL K H q (ms.map V.int)) (hl : ns.length = ms.length) (c : Q (.bl (llt ns ms)) H) : rLtL K (.ref p) (.ref q) H Q := ⟨p, q, ns, ms, rfl, rfl, h1, h2, hl, c⟩
end
section
variable {H : Hp} {σ : L2.St} {tt : TT} {t u : TS} {D : Ends} {R : Hp → Prop}
/-- a test that never holds; what is known after it -/
theorem s_ifF (R : Hp → Prop) (h : ∀ QB : Bool → Hp → Prop, (∀ H', R H' → QB false H') → tt σ H QB) (q : ∀ H', R H' → u D σ H') : tIfS tt t u D σ H := h _ (fun H' r => iteF (q H' r))
end
theorem ite_n {c : Bool} {A B : Prop} (h1 : c = false → A) (h2 : c = true → B) : if (!c) = true then A else B := by
  cases c with
  | false => exact h1 rfl
  | true => exact h2 rfl
theorem ite_nd {p : Prop} [Decidable p] {A B : Prop} (h1 : ¬ p → A) (h2 : p → B) : if (!decide p) = true then A else B := ite_n (fun h => h1 (of_decide_eq_false h)) (fun h => h2 (of_decide_eq_true h))
/-- a statement whose ways join: what is known of the heap behind it -/
theorem s_J {σ : L2.St} {H : Hp} {t : TS} {D : Ends} (R : Hp → Prop) (h : ∀ N : L2.St → Hp → Prop, (∀ H', R H' → N σ H') → t { D with nx := N } σ H) (q : ∀ H', R H' → D.nx σ H') : t D σ H := h D.nx q
theorem s_JS {σ : L2.St} {H : Hp} {t : TS} {D : Ends} (R : L2.St → Hp → Prop) (h : ∀ N : L2.St → Hp → Prop, (∀ σ' H', R σ' H' → N σ' H') → t { D with nx := N } σ H) (q : ∀ σ' H', R σ' H' → D.nx σ' H') : t D σ H := h D.nx q
theorem s_dn {σ : L2.St} {H : Hp} {f : L2.St → Hp → Prop} {rt : VK} {bk ct : L2.St → Hp → Prop} (h : f σ H) : (Ends.mk f rt bk ct).nx σ H := h
theorem s_vJ {σ : L2.St} {H : Hp} {te : TE} {Q : VK} (R : V → Hp → Prop) (h : ∀ Q' : VK, (∀ v H', R v H' → Q' v H') → te σ H Q') (q : ∀ v H', R v H' → Q v H') : te σ H Q := h Q q
theorem cutIJ (xs : List V) (i j : Nat) (hi : i ≤ xs.length) (hj : j ≤ xs.length) : cutV xs (some (i : Int)) (some (j : Int)) = (xs.drop i).take (j - i) := by
  unfold cutV
  rw [HT.sIx_nat, HT.sIx_nat, Nat.min_eq_left hi, Nat.min_eq_left hj]
theorem cutI (xs : List V) (i : Nat) (hi : i ≤ xs.length) : cutV xs (some (i : Int)) none = xs.drop i := by
  unfold cutV
  rw [HT.sIx_nat, HT.sIx_none, Nat.min_eq_left hi]
  exact List.take_of_length_le (by rw [List.length_drop]; omega)
theorem flat_bls : ∀ bs : List Bool, (bs.map V.bl).all flatV = true
  | [] => rfl
  | b :: bs => by
    rw [List.map_cons, List.all_cons, flat_bls bs]; rfl
theorem inV_false : ∀ bs : List Bool, (!inV (.bl false) (bs.map V.bl)) = bs.all id
  | [] => rfl
  | b :: bs => by
    have ih := inV_false bs
    unfold inV at ih ⊢
    rw [List.map_cons, List.any_cons, Bool.not_or, ih]
    cases b <;> rfl
theorem s_ninB {K : PySem.W.Frag} {H : Hp} {Q : VK} {p : Addr} {bs : List Bool} (h : SqL K H p (bs.map V.bl)) (q : Q (.bl (bs.all id)) H) : rIn K true (.bl false) (.ref p) H Q :=
  ⟨p, _, rfl, .inl h, rfl, flat_bls bs, by rw [if_pos rfl, inV_false]; exact q⟩
theorem small_len {n m : Nat} (h : Nat.ble n m = true) : n ≤ m := Nat.le_of_ble_eq_true h

end Tm

namespace Tm
open PySem PySem.Spec PyProof.Rows L2
/-! ### the steps as one word -/
/-- an object of the body's own: H p = some _ | a list | a tuple -/
local macro_rules | `(tactic| walk_at "own") => `(tactic| ((rename Kn _ _ _ _ => kk); first
  | exact kk.get 0 rfl | exact kk.get 1 rfl | exact kk.get 2 rfl | exact kk.get 3 rfl | exact kk.get 4 rfl | exact kk.get 5 rfl | exact kk.get 6 rfl | exact kk.get 7 rfl | exact kk.get 8 rfl | exact kk.get 9 rfl | exact kk.get 10 rfl | exact kk.get 11 rfl | exact kk.get 12 rfl | exact kk.get 13 rfl | exact kk.get 14 rfl | exact kk.get 15 rfl | exact kk.get 16 rfl | exact kk.get 17 rfl | exact kk.get 18 rfl | exact kk.get 19 rfl | exact kk.get 20 rfl | exact kk.get 21 rfl | exact kk.get 22 rfl | exact kk.get 23 rfl))
local macro_rules | `(tactic| walk_at "sq") => `(tactic| first | assumption | ((rename Kn _ _ _ _ => kk); first
  | exact kn_sq kk 0 rfl | exact kn_sq kk 1 rfl | exact kn_sq kk 2 rfl | exact kn_sq kk 3 rfl | exact kn_sq kk 4 rfl | exact kn_sq kk 5 rfl | exact kn_sq kk 6 rfl | exact kn_sq kk 7 rfl | exact kn_sq kk 8 rfl | exact kn_sq kk 9 rfl | exact kn_sq kk 10 rfl | exact kn_sq kk 11 rfl | exact kn_sq kk 12 rfl | exact kn_sq kk 13 rfl | exact kn_sq kk 14 rfl | exact kn_sq kk 15 rfl | exact kn_sq kk 16 rfl | exact kn_sq kk 17 rfl | exact kn_sq kk 18 rfl | exact kn_sq kk 19 rfl | exact kn_sq kk 20 rfl | exact kn_sq kk 21 rfl | exact kn_sq kk 22 rfl | exact kn_sq kk 23 rfl | exact kk.sq (by assumption) (by first | (intro z; cases z; done) | assumption)))
local macro_rules | `(tactic| walk_at "tq") => `(tactic| first | assumption | ((rename Kn _ _ _ _ => kk); first
  | exact kn_tq kk 0 rfl | exact kn_tq kk 1 rfl | exact kn_tq kk 2 rfl | exact kn_tq kk 3 rfl | exact kn_tq kk 4 rfl | exact kn_tq kk 5 rfl | exact kn_tq kk 6 rfl | exact kn_tq kk 7 rfl | exact kn_tq kk 8 rfl | exact kn_tq kk 9 rfl | exact kn_tq kk 10 rfl | exact kn_tq kk 11 rfl | exact kn_tq kk 12 rfl | exact kn_tq kk 13 rfl | exact kn_tq kk 14 rfl | exact kn_tq kk 15 rfl | exact kn_tq kk 16 rfl | exact kn_tq kk 17 rfl | exact kn_tq kk 18 rfl | exact kn_tq kk 19 rfl | exact kn_tq kk 20 rfl | exact kn_tq kk 21 rfl | exact kn_tq kk 22 rfl | exact kn_tq kk 23 rfl))
local macro_rules | `(tactic| walk_at "go") => `(tactic| repeat (walk_at "go1"))
local macro_rules | `(tactic| walk_at "go1") => `(tactic| (first
  | ((with_reducible refine s_seq ?_); (try walk_at "nz"))
  | with_reducible refine s_asg ?_
  | with_reducible refine s_name ?_
  | ((with_reducible refine' s_var ?gA ?_); (case gA => exact rfl))
  | with_reducible refine s_c ?_
  | with_reducible refine s_op ?_
  | with_reducible refine s_I0 ?_
  | ((with_reducible refine' s_I ?gA ?_); (case gA => first | exact cmul_b | (show (0 : Int) < _; decide) | exact ⟨by decide, by decide⟩ | exact ⟨by decide, by decide, by decide⟩ | exact .inr ⟨by decide, by decide⟩ | exact .inl ⟨by decide, by decide⟩ | (show (0 : Int) < _; omega) | assumption))
  | with_reducible refine s_un ?_
  | with_reducible refine s_U ?_
  | with_reducible refine s_eqI ?_
  | with_reducible refine s_neI ?_
  | with_reducible refine s_eqB ?_
  | with_reducible refine s_neB ?_
  | with_reducible refine s_eqS ?_
  | with_reducible refine s_neS ?_
  | with_reducible refine s_chain ?_
  | with_reducible refine s_rev ?_
  | ((with_reducible refine' s_neL ?gA ?gB ?_); (case gA => walk_at "sq"); (case gB => walk_at "sq"))
  | ((with_reducible refine' s_eqL ?gA ?gB ?_); (case gA => walk_at "sq"); (case gB => walk_at "sq"))
  | ((rename Kn _ _ _ _ => kk); (with_reducible refine' n_rev kk ?gA ?_); (case gA => walk_at "sq"); clear kk; intro _ _ kk)
  | with_reducible refine s_test ?_
  | with_reducible refine s_B ?_
  | with_reducible refine s_bl ?_
  | with_reducible refine s_isI ?_
  | with_reducible refine s_ret ?_
  | with_reducible refine s_drop ?_
  | with_reducible refine s_next ?_
  | with_reducible refine s_ifS ?_
  | with_reducible refine s_and ?_
  | with_reducible refine s_or ?_
  | with_reducible refine s_not ?_
  | with_reducible refine s_andV ?_
  | with_reducible refine s_orV ?_
  | ((with_reducible refine' s_aug ?gA ?_); (case gA => exact rfl))
  | with_reducible refine s_ipI ?_
  | with_reducible refine s_forR ?_
  | with_reducible refine s_forR2 ?_
  | with_reducible refine s_forL ?_
  | with_reducible refine s_forT ?_
  | with_reducible refine s_lcR ?_
  | with_reducible refine s_lcL ?_
  | with_reducible refine s_gCons ?_
  | with_reducible refine s_gNil ?_
  | with_reducible refine s_gSub ?_
  | with_reducible refine s_slc ?_
  | with_reducible refine s_par ?_
  | with_reducible refine s_vw ?_
  | ((with_reducible refine' s_gTup ?gA ?gB ?_); (case gA => walk_at "tq"); (case gB => rfl))
  | ((with_reducible refine' s_gLst ?gA ?gB ?_); (case gA => walk_at "sq"); (case gB => rfl))
  | with_reducible refine s_nil ?_
  | with_reducible refine s_cons ?_
  | with_reducible refine s_call0 ?_
  | with_reducible refine s_call ?_
  | with_reducible refine s_CB ?_
  | with_reducible refine s_lst ?_
  | with_reducible refine s_tup ?_
  | with_reducible refine s_sl ?_
  | with_reducible refine s_part ?_
  | with_reducible refine s_nopart ?_
  | with_reducible refine s_int ?_
  | with_reducible refine s_intB ?_
  | with_reducible refine s_abs ?_
  | ((with_reducible refine' s_ixT ?gA ?gB ?_); (case gA => walk_at "tq"); (case gB => exact rfl))
  | ((with_reducible refine' s_ixL ?gA ?gB ?_); (case gA => walk_at "sq"); (case gB => exact rfl))
  | ((with_reducible refine' s_sum ?gA ?_); (case gA => walk_at "sq"))
  | with_reducible refine s_BM ?_
  | with_reducible refine s_BM0 ?_
  | ((with_reducible refine' n_ty ?gA ?_); (case gA => walk_at "sq"))
  | ((with_reducible refine' s_len ?gA ?_); (case gA => walk_at "sq"))
  | ((rename Kn _ _ _ _ => kk); (with_reducible refine' n_lst kk ?gA ?_); (case gA => exact small_len rfl); clear kk; intro _ _ kk)
  | ((rename Kn _ _ _ _ => kk); (with_reducible refine' n_tup kk ?gA ?_); (case gA => exact small_len rfl); clear kk; intro _ _ kk)
  | ((rename Kn _ _ _ _ => kk); (with_reducible refine' s_cat kk ?gA ?gB ?gC ?_); (case gA => walk_at "own"); (case gB => walk_at "own"); (case gC => walk_at "len"); clear kk; intro _ _ kk)
  | ((rename Kn _ _ _ _ => kk); (with_reducible refine' s_slL kk ?gA ?_); (case gA => walk_at "sq"); clear kk; intro _ _ kk)
  | ((rename Kn _ _ _ _ => kk); (with_reducible refine' s_list kk ?gA ?_); (case gA => walk_at "sq"); clear kk; intro _ _ kk)))

local macro_rules | `(tactic| walk_at "st") => `(tactic| ((try with_reducible refine s_next ?_); (try with_reducible refine s_seq ?_); (try walk_at "nz")))
local macro_rules | `(tactic| walk_at "len") => `(tactic| (simp only [List.length_append, List.length_map, List.length_replicate, List.length_cons, List.length_nil]; omega))
local macro_rules | `(tactic| walk_at "sub") => `(tactic| repeat (first | exact List.Sublist.slnil | exact List.nil_sublist _ | apply List.Sublist.cons₂ | apply List.Sublist.cons))

def topS (i : Nat) : Stmt := PySem.Challenge.pw_tidemark_k10_whole_names_and_paths_put_t.main.body.getD i (.Pass ⟨0, 0, 0, 0⟩)
abbrev s_is_name : Stmt := topS 5
abbrev N_is_name : List Str := ["text", "char"]
theorem sc_is_name : FnScope N_is_name ["text"] (defScope s_is_name) := ⟨rfl, rfl, rfl, by decide +kernel, rfl, by decide +kernel, by decide +kernel⟩
abbrev s_has_names : Stmt := topS 6
abbrev N_has_names : List Str := ["text", "names", "name"]
theorem sc_has_names : FnScope N_has_names ["text"] (defScope s_has_names) := ⟨rfl, rfl, rfl, by decide +kernel, rfl, by decide +kernel, by decide +kernel⟩
abbrev s_is_path : Stmt := topS 7
abbrev N_is_path : List Str := ["text"]
theorem sc_is_path : FnScope N_is_path ["text"] (defScope s_is_path) := ⟨rfl, rfl, rfl, by decide +kernel, rfl, by decide +kernel, by decide +kernel⟩
abbrev s_is_target : Stmt := topS 8
abbrev N_is_target : List Str := ["text"]
theorem sc_is_target : FnScope N_is_target ["text"] (defScope s_is_target) := ⟨rfl, rfl, rfl, by decide +kernel, rfl, by decide +kernel, by decide +kernel⟩
abbrev s_names_of : Stmt := topS 9
abbrev N_names_of : List Str := ["path"]
theorem sc_names_of : FnScope N_names_of ["path"] (defScope s_names_of) := ⟨rfl, rfl, rfl, by decide +kernel, rfl, by decide +kernel, by decide +kernel⟩
abbrev s_u_law_deck : Stmt := topS 11
abbrev N_u_law_deck : List Str := ["script", "cells", "each", "deck", "seed", "k", "cell", "rest", "turn"]
theorem sc_u_law_deck : FnScope N_u_law_deck ["script", "cells", "each"] (defScope s_u_law_deck) := ⟨rfl, rfl, rfl, by decide +kernel, rfl, by decide +kernel, by decide +kernel⟩
abbrev s_u_law_take : Stmt := topS 12
abbrev N_u_law_take : List Str := ["deck", "many"]
theorem sc_u_law_take : FnScope N_u_law_take ["deck", "many"] (defScope s_u_law_take) := ⟨rfl, rfl, rfl, by decide +kernel, rfl, by decide +kernel, by decide +kernel⟩
abbrev s_u_law_pick : Stmt := topS 13
abbrev N_u_law_pick : List Str := ["deck", "items"]
theorem sc_u_law_pick : FnScope N_u_law_pick ["deck", "items"] (defScope s_u_law_pick) := ⟨rfl, rfl, rfl, by decide +kernel, rfl, by decide +kernel, by decide +kernel⟩
abbrev s_u_law_plain : Stmt := topS 14
abbrev N_u_law_plain : List Str := ["value", "item"]
theorem sc_u_law_plain : FnScope N_u_law_plain ["value"] (defScope s_u_law_plain) := ⟨rfl, rfl, rfl, by decide +kernel, rfl, by decide +kernel, by decide +kernel⟩
abbrev s_u_law_same : Stmt := topS 15
abbrev N_u_law_same : List Str := ["told", "due"]
theorem sc_u_law_same : FnScope N_u_law_same ["told", "due"] (defScope s_u_law_same) := ⟨rfl, rfl, rfl, by decide +kernel, rfl, by decide +kernel, by decide +kernel⟩
abbrev s_u_law_name : Stmt := topS 16
abbrev N_u_law_name : List Str := ["deck", "signs", "size", "k"]
theorem sc_u_law_name : FnScope N_u_law_name ["deck"] (defScope s_u_law_name) := ⟨rfl, rfl, rfl, by decide +kernel, rfl, by decide +kernel, by decide +kernel⟩
abbrev s_u_law_is_name : Stmt := topS 17
abbrev N_u_law_is_name : List Str := ["text", "good", "sign"]
theorem sc_u_law_is_name : FnScope N_u_law_is_name ["text"] (defScope s_u_law_is_name) := ⟨rfl, rfl, rfl, by decide +kernel, rfl, by decide +kernel, by decide +kernel⟩
abbrev s_law : Stmt := topS 18
abbrev N_law : List Str := ["script", "deck", "turn", "names", "k", "name", "path", "relative", "parts", "good", "wrong"]
theorem sc_law : FnScope N_law ["script"] (defScope s_law) := ⟨rfl, rfl, rfl, by decide +kernel, rfl, by decide +kernel, by decide +kernel⟩
structure Txt (w : World) (K : PySem.W.Frag) (mg : Str → Option Value) where
  m_len : mg "len" = none
  m_all : mg "all" = none
  m_range : mg "range" = none
  m_int : mg "int" = none
  m_abs : mg "abs" = none
  m_list : mg "list" = none
  m_tuple : mg "tuple" = none
  m_isinstance : mg "isinstance" = none
  m_bool : mg "bool" = none
  m_str : mg "str" = none
  t_NAME_MOST : Tok
  v_NAME_MOST : mg "NAME_MOST" = some (.int 32 t_NAME_MOST)
  t_NAME_CHARS : Tok
  v_NAME_CHARS : mg "NAME_CHARS" = some (.str "ABCDEFGHIJKLMNOPQRSTUVWXYZabcdefghijklmnopqrstuvwxyz0123456789_-." t_NAME_CHARS)
  t_NAMES_MOST : Tok
  v_NAMES_MOST : mg "NAMES_MOST" = some (.int 16 t_NAMES_MOST)
  t_PATH_MOST : Tok
  v_PATH_MOST : mg "PATH_MOST" = some (.int 256 t_PATH_MOST)
  f_is_name : Addr
  d_is_name : FuncData
  F_is_name : Fun K "is_name" "is_name" s_is_name f_is_name d_is_name
  g_is_name : mg "is_name" = some (.ref f_is_name)
  b_is_name : Binds K d_is_name ["text"] []
  f_has_names : Addr
  d_has_names : FuncData
  F_has_names : Fun K "has_names" "has_names" s_has_names f_has_names d_has_names
  g_has_names : mg "has_names" = some (.ref f_has_names)
  b_has_names : Binds K d_has_names ["text"] []
  f_is_path : Addr
  d_is_path : FuncData
  F_is_path : Fun K "is_path" "is_path" s_is_path f_is_path d_is_path
  g_is_path : mg "is_path" = some (.ref f_is_path)
  b_is_path : Binds K d_is_path ["text"] []
  f_is_target : Addr
  d_is_target : FuncData
  F_is_target : Fun K "is_target" "is_target" s_is_target f_is_target d_is_target
  g_is_target : mg "is_target" = some (.ref f_is_target)
  b_is_target : Binds K d_is_target ["text"] []
  f_names_of : Addr
  d_names_of : FuncData
  F_names_of : Fun K "names_of" "names_of" s_names_of f_names_of d_names_of
  g_names_of : mg "names_of" = some (.ref f_names_of)
  b_names_of : Binds K d_names_of ["path"] []
  f_u_law_deck : Addr
  d_u_law_deck : FuncData
  F_u_law_deck : Fun K "_law_deck" "_law_deck" s_u_law_deck f_u_law_deck d_u_law_deck
  g_u_law_deck : mg "_law_deck" = some (.ref f_u_law_deck)
  b_u_law_deck : Binds K d_u_law_deck ["script", "cells", "each"] []
  f_u_law_take : Addr
  d_u_law_take : FuncData
  F_u_law_take : Fun K "_law_take" "_law_take" s_u_law_take f_u_law_take d_u_law_take
  g_u_law_take : mg "_law_take" = some (.ref f_u_law_take)
  b_u_law_take : Binds K d_u_law_take ["deck", "many"] []
  f_u_law_pick : Addr
  d_u_law_pick : FuncData
  F_u_law_pick : Fun K "_law_pick" "_law_pick" s_u_law_pick f_u_law_pick d_u_law_pick
  g_u_law_pick : mg "_law_pick" = some (.ref f_u_law_pick)
  b_u_law_pick : Binds K d_u_law_pick ["deck", "items"] []
  f_u_law_plain : Addr
  d_u_law_plain : FuncData
  F_u_law_plain : Fun K "_law_plain" "_law_plain" s_u_law_plain f_u_law_plain d_u_law_plain
  g_u_law_plain : mg "_law_plain" = some (.ref f_u_law_plain)
  b_u_law_plain : Binds K d_u_law_plain ["value"] []
  f_u_law_same : Addr
  d_u_law_same : FuncData
  F_u_law_same : Fun K "_law_same" "_law_same" s_u_law_same f_u_law_same d_u_law_same
  g_u_law_same : mg "_law_same" = some (.ref f_u_law_same)
  b_u_law_same : Binds K d_u_law_same ["told", "due"] []
  f_u_law_name : Addr
  d_u_law_name : FuncData
  F_u_law_name : Fun K "_law_name" "_law_name" s_u_law_name f_u_law_name d_u_law_name
  g_u_law_name : mg "_law_name" = some (.ref f_u_law_name)
  b_u_law_name : Binds K d_u_law_name ["deck"] []
  f_u_law_is_name : Addr
  d_u_law_is_name : FuncData
  F_u_law_is_name : Fun K "_law_is_name" "_law_is_name" s_u_law_is_name f_u_law_is_name d_u_law_is_name
  g_u_law_is_name : mg "_law_is_name" = some (.ref f_u_law_is_name)
  b_u_law_is_name : Binds K d_u_law_is_name ["text"] []
  f_law : Addr
  d_law : FuncData
  F_law : Fun K "law" "law" s_law f_law d_law
  g_law : mg "law" = some (.ref f_law)
  b_law : Binds K d_law ["script"] []
section
variable {P : Program} {w : World} {K : PySem.W.Frag} {mg : Str → Option Value} {base : Heap}
/-! ### the draws -/
def sp_u_law_take (K : PySem.W.Frag) : Sp := fun vs H Q _ => ∃ (d : Addr) (m : Int), vs = [.ref d, .int m] ∧ 0 < m ∧ DkOk d H ∧ ∀ n H', 0 ≤ n → n < m → Dx d H H' → Q (.int n) H'
theorem ok_u_law_take (T : Txt w K mg) : FnOk P w K mg base CX0 1 T.f_u_law_take T.d_u_law_take ["deck", "many"] (sp_u_law_take K) := by
  refine T.F_u_law_take.ok sc_u_law_take (fun vs H Q E h => ?_) (fun cdv A outer s H vs Q E hr h => ?_)
  · obtain ⟨_, _, rfl, _⟩ := h; rfl
  · obtain ⟨d, m, rfl, hm, ⟨ds, hd, hds, hl⟩, q⟩ := h
    refine ⟨_, (pss_one (ps_ret (pe_ifExp (pt_cmpR op_gt (pe_callB (kLen (K := K)) (by rfl) T.m_len (by decide +kernel) (pa_cons (pv 0) pa_nil)) pe_int (nomark _)) (pe_op op_mod (pe_callTy cInt (by rfl) T.m_int (by decide +kernel) (pa_cons (pe_bm0K (K := K) PySem.F.plainAttrs_list PySem.F.slot_list_pop PySem.F.type_list_pop mt_pop (pv 0)) pa_nil)) (pv 1)) pe_int))), ?_⟩
    have hS : SqL K H d (ds.map V.int) := .inl (.inl hd)
    walk_at "go"
    refine s_if ?_
    walk_at "go"
    refine ite_d (fun h => ?_) (fun h => ?_)
    · walk_at "go"
      have h0 : 0 < ds.length := by
        rw [List.length_map] at h
        omega
      have hla : (ds.map V.int)[(ds.map V.int).length - 1]? = some (.int (ds[ds.length - 1]'(by omega))) := by
        rw [List.length_map, List.getElem?_map, List.getElem?_eq_getElem (by omega)]; rfl
      refine ⟨d, _, _, rfl, rfl, hd, hla, ?_⟩
      walk_at "go"
      refine q _ _ (Int.emod_nonneg _ (by omega)) (Int.emod_lt_of_pos _ hm) ⟨fun a o na e => ?_, ds.dropLast, ?_, fun x hx => hds x (List.dropLast_subset _ hx), ?_⟩
      · rw [upd_ne na]; exact e
      · rw [upd_same, List.map_dropLast]
      · rw [List.length_dropLast]; omega
    · walk_at "go"
      exact q 0 H (Int.le_refl _) hm ⟨fun _ _ _ e => e, ds, hd, hds, hl⟩
def sp_u_law_pick (K : PySem.W.Frag) : Sp := fun vs H Q _ => (∃ (d a : Addr) (xs : List V), vs = [.ref d, .ref a] ∧ a ≠ d ∧ SqL K H a xs ∧ xs ≠ [] ∧ DkOk d H ∧ ∀ (n : Nat) x H', xs[n]? = some x → Dx d H H' → Q x H') ∨
  (∃ (d : Addr) (z : Str), vs = [.ref d, .str z] ∧ 0 < z.length ∧ z.length ≤ 10000 ∧ DkOk d H ∧ ∀ c H', c ∈ z.cps.toList → Dx d H H' → Q (.str ⟨#[c]⟩) H')
theorem ok_u_law_pick (T : Txt w K mg) : FnOk P w K mg base CX0 2 T.f_u_law_pick T.d_u_law_pick ["deck", "items"] (sp_u_law_pick K) := by
  refine T.F_u_law_pick.ok sc_u_law_pick (fun vs H Q E h => ?_) (fun cdv A outer s H vs Q E hr h => ?_)
  · rcases h with ⟨_, _, _, rfl, _⟩ | ⟨_, _, rfl, _⟩ <;> rfl
  · refine ⟨_, (pss_one (ps_ret (pe_ix (kIxU (K := K)) (pv 1) (pe_call (ok_u_law_take T) hr (by rfl) T.g_u_law_take T.F_u_law_take.kp T.b_u_law_take .nil pass0 (pa_cons (pv 0) (pa_cons (pe_callB (kLenU (K := K)) (by rfl) T.m_len (by decide +kernel) (pa_cons (pv 1) pa_nil)) pa_nil))) (fun _ _ => rfl)))), ?_⟩
    rcases h with ⟨d, a, xs, rfl, nad, hS, ne, hk, q⟩ | ⟨d, z, rfl, z0, z1, hk, q⟩
    · walk_at "go"
      refine .inl (s_len hS ?_)
      walk_at "go"
      have hl : 0 < xs.length := List.length_pos_iff.mpr ne
      refine ⟨d, _, rfl, by omega, hk, fun n H1 h0 h1 x1 => .inl ?_⟩
      have hS1 : SqL K H1 a xs := (Kn.deck hk).dx x1 |>.sq hS (fun z => nad (Option.some.inj z))
      obtain ⟨j, rfl⟩ := Int.eq_ofNat_of_zero_le h0
      have hj : j < xs.length := by omega
      refine s_ixL hS1 (atI_nat (List.getElem?_eq_getElem hj)) ?_
      exact q j _ H1 (List.getElem?_eq_getElem hj) x1
    · walk_at "go"
      have hz : z.length ≤ sizeLine := Nat.le_trans z1 (by decide)
      refine .inr ⟨z, rfl, hz, ?_⟩
      walk_at "go"
      refine ⟨d, _, rfl, by omega, hk, fun n H1 h0 h1 x1 => .inr ?_⟩
      obtain ⟨j, rfl⟩ := Int.eq_ofNat_of_zero_le h0
      have hj : j < z.cps.toList.length := by
        have : z.length = z.cps.toList.length := by simp [Str.length]
        omega
      exact ⟨z, _, _, rfl, rfl, hz, atI_nat (List.getElem?_eq_getElem hj), q _ H1 (List.getElem_mem hj) x1⟩
end
section
variable {P : Program} {w : World} {K : PySem.W.Frag} {mg : Str → Option Value} {base : Heap}
def InDk (l : List Int) : Prop := ∀ x ∈ l, 0 ≤ x ∧ x < 1000003
theorem InDk.snoc {l : List Int} {x : Int} (h : InDk l) (h0 : 0 ≤ x) (h1 : x < 1000003) : InDk (l ++ [x]) := fun y hy => by
  rcases List.mem_append.mp hy with hy | hy
  · exact h y hy
  · rw [List.mem_singleton.mp hy]; exact ⟨h0, h1⟩
def sp_u_law_deck (K : PySem.W.Frag) : Sp := fun vs H Q _ => ∃ (a : Addr) (ns : List Int) (c e : Nat), vs = [.ref a, .int c, .int e] ∧ SqL K H a (ns.map V.int) ∧ ns.length ≤ 63 ∧ c ≤ 400 ∧ e ≤ 14 ∧
  ∀ H' p, Same H H' → H p = none → DkOk p H' → Q (.ref p) H'
theorem ok_u_law_deck (T : Txt w K mg) : FnOk P w K mg base CX0 1 T.f_u_law_deck T.d_u_law_deck ["script", "cells", "each"] (sp_u_law_deck K) := by
  refine T.F_u_law_deck.ok sc_u_law_deck (fun vs H Q E h => ?_) (fun cdv A outer s H vs Q E hr h => ?_)
  · obtain ⟨_, _, _, _, rfl, _⟩ := h; rfl
  · obtain ⟨a, ns, c, e, rfl, hS, hns, hc, he, q⟩ := h
    refine ⟨_, (pss_cons (ps_set (i := 3) sc_u_law_deck.nd rfl (by first | exact Or.inl rfl | exact Or.inr rfl) (pe_lst pa_nil))
      (pss_cons (ps_set (i := 4) sc_u_law_deck.nd rfl (by first | exact Or.inl rfl | exact Or.inr rfl) (pe_op op_add pe_int (pe_callB (kLen (K := K)) (by rfl) T.m_len (by decide +kernel) (pa_cons (pv 0) pa_nil))))
      (pss_cons (ps_for PassesOwn.never rfl (pi_range1 (by rfl) T.m_range (pa_cons (pv 1) pa_nil)) (pg_name (i := 5) sc_u_law_deck.nd rfl (by first | exact Or.inl rfl | exact Or.inr rfl))
        (pss_cons (ps_set (i := 6) sc_u_law_deck.nd rfl (by first | exact Or.inl rfl | exact Or.inr rfl) (pe_ifExp (pt_cmpR op_lt (pv 5) (pe_callB (kLen (K := K)) (by rfl) T.m_len (by decide +kernel) (pa_cons (pv 0) pa_nil)) (nomark _)) (pe_callTy cInt (by rfl) T.m_int (by decide +kernel) (pa_cons (pe_ix (kIxL (K := K)) (pv 0) (pv 5) (fun _ _ => rfl)) pa_nil)) pe_int))
        (pss_cons (ps_set (i := 7) sc_u_law_deck.nd rfl (by first | exact Or.inl rfl | exact Or.inr rfl) (pe_op op_mul (pe_callB cAbs (by rfl) T.m_abs (by decide +kernel) (pa_cons (pv 6) pa_nil)) (pe_callTy cInt (by rfl) T.m_int (by decide +kernel) (pa_cons (pe_cmpR op_ge (pe_callB cAbs (by rfl) T.m_abs (by decide +kernel) (pa_cons (pv 6) pa_nil)) (pe_op op_pow pe_int pe_int) (nomark _)) pa_nil))))
        (pss_cons (ps_set (i := 4) sc_u_law_deck.nd rfl (by first | exact Or.inl rfl | exact Or.inr rfl) (pe_op op_mod (pe_callTy cInt (by rfl) T.m_int (by decide +kernel) (pa_cons (pe_op op_add (pe_op op_add (pe_op op_add (pe_op op_mul (pv 4) pe_int) (pe_op op_mul pe_int (pe_op op_mod (pe_callTy cInt (by rfl) T.m_int (by decide +kernel) (pa_cons (pe_callB cAbs (by rfl) T.m_abs (by decide +kernel) (pa_cons (pv 6) pa_nil)) pa_nil)) pe_int))) (pe_callTy cInt (by rfl) T.m_int (by decide +kernel) (pa_cons (pe_cmpR op_lt (pv 6) pe_int (nomark _)) pa_nil))) (pv 5)) pa_nil)) pe_int))
        (pss_one (ps_for PassesOwn.never rfl (pi_range1 (by rfl) T.m_range (pa_cons (pv 2) pa_nil)) (pg_name (i := 8) sc_u_law_deck.nd rfl (by first | exact Or.inl rfl | exact Or.inr rfl))
          (pss_cons (ps_set (i := 4) sc_u_law_deck.nd rfl (by first | exact Or.inl rfl | exact Or.inr rfl) (pe_op op_mod (pe_callTy cInt (by rfl) T.m_int (by decide +kernel) (pa_cons (pe_op op_add (pe_op op_add (pe_op op_mul (pv 4) pe_int) (pv 8)) pe_int) pa_nil)) pe_int))
          (pss_cons (ps_expr (pe_bmK (K := K) PySem.F.plainAttrs_list PySem.F.slot_list_append PySem.F.type_list_append mt_append (pv 3) (pa_cons (pe_op op_mod (pe_callTy cInt (by rfl) T.m_int (by decide +kernel) (pa_cons (pe_ix (kIxL (K := K)) (pe_lst (pa_cons (pe_op op_fdiv (pv 4) pe_int) (pa_cons (pv 7) pa_nil))) (pe_callTy cInt (by rfl) T.m_int (by decide +kernel) (pa_cons (pe_cmpR op_gt (pv 7) pe_int (nomark _)) pa_nil)) (fun _ _ => rfl)) pa_nil)) pe_int) pa_nil)))
          (pss_one (ps_set (i := 7) sc_u_law_deck.nd rfl (by first | exact Or.inl rfl | exact Or.inr rfl) (pe_op op_fdiv (pv 7) pe_int)))))))))))
      (pss_cons (ps_expr (pe_bm0K (K := K) PySem.F.plainAttrs_list PySem.F.slot_list_reverse PySem.F.type_list_reverse mt_reverse (pv 3)))
      (pss_one (ps_ret (pv 3))))))), ?_⟩
    have kk := Kn.nil (H := H)
    walk_at "go"
    rename_i p H1 kk
    refine n_for (by omega) (by omega) (fun i σ H' => ∃ (sd : Int) (ds : List Int) (y5 y6 y7 y8 : Option V), σ = [some (.ref a), some (.int c), some (.int e), some (.ref p), some (.int sd), y5, y6, y7, y8] ∧
      Kn none H [(p, .lst (ds.map V.int))] H' ∧ InDk ds ∧ ds.length = i * e ∧ 0 ≤ sd ∧ sd < 3000000000
      ) ⟨_, [], none, none, none, none, rfl, kk, (fun _ z => nomatch z), by simp, by omega, by rw [List.length_map]; omega⟩ (fun i σ H' hi hp => ?_) (fun σ H' hp => ?_)
    · obtain ⟨sd, ds, y5, y6, y7, y8, rfl, kk, hds, hl, h0, h1⟩ := hp
      walk_at "go"
      refine s_ifJ (R := fun v H2 => H2 = H' ∧ ∃ z, v = .int z) (fun Q' q' => ?_) (fun v H2 hv => ?_)
      · refine s_if ?_
        walk_at "go"
        refine ite_d (fun h => ?_) (fun h => ?_)
        · walk_at "go"
          rw [List.length_map] at h
          refine s_ixL (kk.sq hS (fun z => nomatch z)) (atI_nat (j := i) (by rw [List.getElem?_map, List.getElem?_eq_getElem (by omega)]; rfl)) ?_
          walk_at "go"
          exact q' _ _ ⟨rfl, _, rfl⟩
        · walk_at "go"
          exact q' _ _ ⟨rfl, _, rfl⟩
      · obtain ⟨rfl, z, rfl⟩ := hv
        walk_at "go"
        refine n_for (by omega) (by omega) (fun j σ H3 => ∃ (sd rs : Int) (ds : List Int) (y8 : Option V), σ = [some (.ref a), some (.int c), some (.int e), some (.ref p), some (.int sd), some (.int i), some (.int z), some (.int rs), y8] ∧
          Kn none H [(p, .lst (ds.map V.int))] H3 ∧ InDk ds ∧ ds.length = i * e + j ∧ 0 ≤ sd ∧ sd < 3000000000
          ) ⟨_, _, ds, _, rfl, kk, hds, by omega, Int.emod_nonneg _ (by decide), Int.lt_trans (Int.emod_lt_of_pos _ (by decide)) (by decide)⟩ (fun j σ H3 hj hp => ?_) (fun σ H3 hp => ?_)
        · obtain ⟨sd, rs, ds, y8, rfl, kk, hds, hl, h0, h1⟩ := hp
          walk_at "go"
          rename_i tp H4 kk4
          refine s_ixL (v := .int (if 0 < rs then rs else (sd * 69621 + j + 1) % 2147483629 / 7)) (kn_sq kk4 0 rfl) (by by_cases h : 0 < rs <;> simp [h] <;> rfl) ?_
          walk_at "go"
          refine a_append kk4 1 rfl (by rw [List.length_map, hl]; have := Nat.mul_le_mul (show i ≤ 400 by omega) he; omega) (fun H5 k5 => ?_)
          walk_at "go"
          refine ⟨_, _, ds ++ [(if 0 < rs then rs else (sd * 69621 + j + 1) % 2147483629 / 7) % 1000003], _, rfl, ?_, hds.snoc (Int.emod_nonneg _ (by decide)) (Int.emod_lt_of_pos _ (by decide)), ?_, Int.emod_nonneg _ (by decide), Int.lt_trans (Int.emod_lt_of_pos _ (by decide)) (by decide)⟩
          · rw [List.map_append]
            exact k5.forget 1
          · rw [List.length_append, hl]; rfl
        · obtain ⟨sd, rs, ds, y8, rfl, kk, hds, hl, h0, h1⟩ := hp
          refine ⟨sd, ds, _, _, _, _, rfl, kk, hds, ?_, h0, h1⟩
          rw [hl, Int.toNat_natCast, Nat.succ_mul]
    · obtain ⟨sd, ds, y5, y6, y7, y8, rfl, kk, hds, hl, h0, h1⟩ := hp
      walk_at "go"
      refine a_reverse kk 0 rfl (fun H5 k5 => ?_)
      walk_at "go"
      refine q H5 p k5.toSame (k5.nw_at 0 rfl) ⟨ds.reverse, ?_, fun x hx => hds x (List.mem_reverse.mp hx), ?_⟩
      · rw [List.map_reverse]; exact k5.get 0 rfl
      · rw [List.length_reverse, hl, Int.toNat_natCast]
        exact Nat.le_trans (Nat.mul_le_mul hc he) (by decide)
end
section
variable {K : PySem.W.Frag} {H H0 : Hp} {Q : VK} {E : XK} {d a : Addr} {G : List (Addr × HO)} {m : Int} {xs : List V}
theorem u_take (k : Kn (some d) H0 G H) (hm : 0 < m) (q : ∀ n H', 0 ≤ n → n < m → Kn (some d) H0 G H' → Q (.int n) H') : sp_u_law_take K [.ref d, .int m] H Q E :=
  ⟨d, m, rfl, hm, k.dk', fun n H' h0 h1 x => q n H' h0 h1 (k.dx x)⟩
theorem u_pick (k : Kn (some d) H0 G H) (i : Nat) (h : G[i]? = some (a, .lst xs)) (ne : xs ≠ []) (q : ∀ x H', x ∈ xs → Kn (some d) H0 G H' → Q x H') : sp_u_law_pick K [.ref d, .ref a] H Q E :=
  .inl ⟨d, a, xs, rfl, fun z => k.dk0 d rfl (z ▸ k.nw_at i h), kn_sq k i h, ne, k.dk', fun n x H' hx e => q x H' (List.mem_of_getElem? hx) (k.dx e)⟩
theorem u_pickS {z : Str} (k : Kn (some d) H0 G H) (h : Nat.blt 0 z.length = true) (h' : Nat.ble z.length 10000 = true) (q : ∀ c H', c ∈ z.cps.toList → Kn (some d) H0 G H' → Q (.str ⟨#[c]⟩) H') : sp_u_law_pick K [.ref d, .str z] H Q E :=
  .inr ⟨d, z, rfl, Nat.le_of_ble_eq_true h, Nat.le_of_ble_eq_true h', k.dk', fun c H' hc e => q c H' hc (k.dx e)⟩
end
local macro_rules | `(tactic| walk_at "dr") => `(tactic| first
  | ((rename Kn _ _ _ _ => kk); (with_reducible refine' u_take kk ?gA ?_); (case gA => first | omega | decide); clear kk; intro _ _ _ _ kk)
  | ((rename Kn _ _ _ _ => kk); (with_reducible refine' u_pick kk 0 rfl ?gA ?_); (case gA => exact List.cons_ne_nil _ _); clear kk; intro _ _ _ kk))
local macro_rules | `(tactic| walk_at "gd") => `(tactic| repeat (first | walk_at "dr" | (walk_at "go1")))

/-! ### a value told plainly -/
/-- values of at most so many levels -/
def okd : Nat → PyData → Bool
  | 0, _ => false
  | n + 1, e => match e with
    | .list xs => decide (xs.length ≤ 100000) && xs.all (okd n)
    | .tuple xs => decide (xs.length ≤ 100000) && xs.all (okd n)
    | .dict _ => false
    | .str s => PyData.strOk s
    | _ => true
def plainD : Nat → PyData → PyData
  | 0, _ => .none
  | n + 1, e => match e with
    | .list xs => .list (.bool true :: xs.map (plainD n))
    | .tuple xs => .list (.bool false :: xs.map (plainD n))
    | .none => .str "None"
    | .bool false => .str "False"
    | .bool true => .str "True"
    | .int i => .list [.bool false, .int i]
    | .str s => .list [.bool true, .str s]
    | .dict _ => .none
theorem okd_list {n : Nat} {xs : List PyData} (h : okd (n + 1) (.list xs) = true) : xs.length ≤ 100000 ∧ ∀ x ∈ xs, okd n x = true := by
  have h' : (decide (xs.length ≤ 100000) && xs.all (okd n)) = true := h
  rw [Bool.and_eq_true] at h'
  exact ⟨of_decide_eq_true h'.1, List.all_eq_true.mp h'.2⟩
theorem okd_tup {n : Nat} {xs : List PyData} (h : okd (n + 1) (.tuple xs) = true) : xs.length ≤ 100000 ∧ ∀ x ∈ xs, okd n x = true := by
  have h' : (decide (xs.length ≤ 100000) && xs.all (okd n)) = true := h
  rw [Bool.and_eq_true] at h'
  exact ⟨of_decide_eq_true h'.1, List.all_eq_true.mp h'.2⟩
theorem shape_plain : ∀ (n : Nat) (e : PyData), okd n e = true → (plainD n e).canLay0 = true ∧ (plainD n e).depth ≤ n + 1
  | 0, _, h => by cases h
  | n + 1, e, h => by
    have all : ∀ xs : List PyData, (∀ x ∈ xs, okd n x = true) → PyData.canLayAll0 (xs.map (plainD n)) = true ∧ PyData.depthAll (xs.map (plainD n)) ≤ n + 1 := by
      intro xs
      induction xs with
      | nil => intro _; simp [PyData.canLayAll0, PyData.depthAll]
      | cons x xs ih =>
        intro h
        have h1 := shape_plain n x (h x (by simp))
        have h2 := ih (fun y hy => h y (by simp [hy]))
        simp only [List.map_cons, PyData.canLayAll0, PyData.depthAll, h1.1, h2.1, Bool.and_self, true_and]
        exact Nat.max_le.mpr ⟨h1.2, h2.2⟩
    cases e with
    | list xs =>
      have h := all xs (okd_list h).2
      simp only [plainD, PyData.canLay0, PyData.canLayAll0, PyData.depth, PyData.depthAll, h.1, Bool.and_self, true_and]
      omega
    | tuple xs =>
      have h := all xs (okd_tup h).2
      simp only [plainD, PyData.canLay0, PyData.canLayAll0, PyData.depth, PyData.depthAll, h.1, Bool.and_self, true_and]
      omega
    | bool b => cases b <;> simp [plainD, PyData.canLay0, PyData.depth] <;> decide +kernel
    | none => simp [plainD, PyData.canLay0, PyData.depth]; decide +kernel
    | int i => simp [plainD, PyData.canLay0, PyData.canLayAll0, PyData.depth, PyData.depthAll]
    | str s =>
      have h : PyData.strOk s = true := h
      simp [plainD, PyData.canLay0, PyData.canLayAll0, PyData.depth, PyData.depthAll, h]
    | dict k => cases h
theorem same_sq {K : PySem.W.Frag} {H0 H : Hp} {a : Addr} {xs : List V} (k : Same H0 H) (h : SqL K H0 a xs) : SqL K H a xs := by
  rcases h with (h | ⟨o, h⟩) | h
  · exact .inl (.inl (k _ _ h))
  · exact .inl (.inr ⟨o, k _ _ h⟩)
  · exact .inr h
theorem same_tq {K : PySem.W.Frag} {H0 H : Hp} {a : Addr} {xs : List V} (k : Same H0 H) (h : SqT K H0 a xs) : SqT K H a xs := by
  rcases h with (h | ⟨o, h⟩) | h
  · exact .inl (.inl (k _ _ h))
  · exact .inl (.inr ⟨o, k _ _ h⟩)
  · exact .inr h
mutual
theorem dp_mono {K : PySem.W.Frag} {H H' : Hp} (k : Same H H') : ∀ {x : V} {e : PyData}, Dp K H x e → Dp K H' x e
  | _, _, .non => .non
  | _, _, .bl b => .bl b
  | _, _, .int i => .int i
  | _, _, .str s => .str s
  | _, _, .lst h t => .lst (same_sq k h) (dpa_mono k t)
  | _, _, .tup h t => .tup (same_tq k h) (dpa_mono k t)
theorem dpa_mono {K : PySem.W.Frag} {H H' : Hp} (k : Same H H') : ∀ {xs : List V} {es : List PyData}, DpAll K H xs es → DpAll K H' xs es
  | _, _, .nil => .nil
  | _, _, .cons h t => .cons (dp_mono k h) (dpa_mono k t)
end
theorem dpa_len {K : PySem.W.Frag} {H : Hp} : ∀ {xs : List V} {es : List PyData}, DpAll K H xs es → xs.length = es.length
  | _, _, .nil => rfl
  | _, _, .cons _ t => by rw [List.length_cons, List.length_cons, dpa_len t]
theorem dpa_get {K : PySem.W.Frag} {H : Hp} : ∀ {xs : List V} {es : List PyData}, DpAll K H xs es → ∀ (i : Nat) (x : V), xs[i]? = some x → ∃ e, es[i]? = some e ∧ Dp K H x e
  | _, _, .nil, i, x, h => by simp at h
  | _, _, .cons d t, 0, x, h => by cases h; exact ⟨_, rfl, d⟩
  | _, _, .cons d t, i + 1, x, h => dpa_get t i x h
theorem dpa_snoc {K : PySem.W.Frag} {H : Hp} : ∀ {xs : List V} {es : List PyData} {x : V} {e : PyData}, DpAll K H xs es → Dp K H x e → DpAll K H (xs ++ [x]) (es ++ [e])
  | _, _, _, _, .nil, d => .cons d .nil
  | _, _, _, _, .cons c t, d => .cons c (dpa_snoc t d)
/-- what a value's type is called -/
def tyN : PyData → String
  | .none => "NoneType"
  | .bool _ => "bool"
  | .int _ => "int"
  | .str _ => "str"
  | .list _ => "list"
  | .tuple _ => "tuple"
  | .dict _ => "dict"
theorem dp_ty {K : PySem.W.Frag} {H : Hp} {x : V} {e : PyData} (h : Dp K H x e) : TyX K H x (.type (tyN e)) := by
  cases h with
  | non => exact .base .non
  | bl b => exact .base (.bl b)
  | int i => exact .base (.int i)
  | str s => exact .base (.str s)
  | lst h _ =>
    rcases h with (h | ⟨o, h⟩) | ⟨o, _, _, h, hc, _⟩
    · exact .base (.lst h)
    · exact .base (.frz h)
    · exact .kList h hc
  | tup h _ =>
    rcases h with (h | ⟨o, h⟩) | ⟨o, _, _, h, hc, _⟩
    · exact .base (.tup h)
    · exact .fTuple h
    · exact .kTuple h hc
section
variable {K : PySem.W.Frag} {H H0 : Hp} {Q : VK} {d : Option Addr} {G : List (Addr × HO)} {x : V} {e : PyData} {t : String} {b : Bool} {p : Addr}
theorem s_isi (h : Dp K H x e) (hb : kitB (tyN e) t = some b) (q : Q (.bl b) H) : rIsi K [x, .ty t] H Q := ⟨x, .ty t, _, .type t, b, rfl, .ty t, dp_ty h, hb, q⟩
theorem s_isi2 {t' : String} {b' : Bool} (kn : Kn d H0 G H) (hp : H p = some (.tup [.ty t, .ty t'])) (h : Dp K H x e) (hb : kitB (tyN e) t = some b) (hb' : kitB (tyN e) t' = some b') (q : Q (.bl (b || b')) H) : rIsiT K [x, .ref p] H Q :=
  ⟨x, p, _, _, [.type t, .type t'], b || b', rfl, hp, .cons (.ty t) (.cons (.ty t') .nil), dp_ty h,
    kitAny_cons (b := b) hb (fun z => by
      subst z
      refine kitAny_cons (b := b') hb' (fun z => ?_) (fun z => ?_)
      · subst z; rfl
      · subst z; rfl) (fun z => by subst z; rfl), q⟩
end
theorem kt : kitB "list" "tuple" = some false ∧ kitB "list" "list" = some true ∧ kitB "tuple" "tuple" = some true ∧ kitB "tuple" "list" = some false ∧ kitB "NoneType" "tuple" = some false ∧ kitB "NoneType" "list" = some false ∧
    kitB "bool" "tuple" = some false ∧ kitB "bool" "list" = some false ∧ kitB "int" "tuple" = some false ∧ kitB "int" "list" = some false ∧ kitB "str" "tuple" = some false ∧ kitB "str" "list" = some false ∧ kitB "bool" "bool" = some true ∧
    kitB "int" "bool" = some false ∧ kitB "str" "bool" = some false ∧ kitB "int" "int" = some true ∧ kitB "str" "int" = some false ∧ kitB "str" "str" = some true ∧ kitB "int" "str" = some false := by decide +kernel
theorem ext_new {S H H' : Hp} {p : Addr} {o : HO} (h : Same S H) (hp : H p = none) (h' : Same H H') (e : H' p = some o) :
    Same S (upd S p o) ∧ Same (upd S p o) H' ∧ ∀ a, upd S p o a ≠ none → S a ≠ none ∨ H a = none := by
  refine ⟨fun a u z => ?_, fun a u z => ?_, fun a z => ?_⟩
  · have : a ≠ p := fun q => by subst q; rw [h a u z] at hp; cases hp
    rw [upd_ne this]; exact z
  · by_cases q : a = p
    · subst q
      rw [upd_same] at z
      rw [e, z]
    · rw [upd_ne q] at z
      exact h' a u (h a u z)
  · by_cases q : a = p
    · subst q; exact .inr hp
    · rw [upd_ne q] at z; exact .inl z
section
variable {P : Program} {w : World} {K : PySem.W.Frag} {mg : Str → Option Value} {base : Heap}
def spn_plain (K : PySem.W.Frag) (n : Nat) : Sp := fun vs H Q _ => ∃ (S : Hp) (v : V) (e : PyData), vs = [v] ∧ okd n e = true ∧ Same S H ∧ Dp K S v e ∧
  ∀ (S' H' : Hp) (v' : V), Same S S' → Same S' H' → Same H H' → (∀ a, S' a ≠ none → S a ≠ none ∨ H a = none) → Dp K S' v' (plainD n e) → Q v' H'
local macro_rules | `(tactic| walk_at "nz") => `(tactic| (refine s_sig (σ' := [_, _]) rfl ?_))
set_option maxHeartbeats 0 in
theorem okn_plain (T : Txt w K mg) : ∀ n : Nat, FnOk P w K mg base CX0 (n + 1) T.f_u_law_plain T.d_u_law_plain ["value"] (spn_plain K n)
  | 0 => by
    refine T.F_u_law_plain.ok sc_u_law_plain (fun vs H Q E h => ?_) (fun cdv A outer s H vs Q E hr h => ?_)
    · obtain ⟨_, _, _, rfl, _⟩ := h; rfl
    · obtain ⟨_, _, _, _, h, _⟩ := h
      cases h
  | n + 1 => by
    have ih := okn_plain T n
    refine T.F_u_law_plain.ok sc_u_law_plain (fun vs H Q E h => ?_) (fun cdv A outer s H vs Q E hr h => ?_)
    · obtain ⟨_, _, _, rfl, _⟩ := h; rfl
    · obtain ⟨S, v, e, rfl, hok, sS, hd, q⟩ := h
      have kk := Kn.nil (H := H)
      obtain ⟨k1, k2, k3, k4, k5, k6, k7, k8, k9, k10, k11, k12, k13, k14, k15, k16, k17, k18, k19⟩ := kt
      refine ⟨_, (pss_cons (ps_if (pt_val (pe_callB (kIsiT (K := K)) (by rfl) T.m_isinstance (by decide +kernel) (pa_cons (pv 0) (pa_cons (pe_tup (pa_cons (pe_bltn (v := .ty "tuple") (u := .type "tuple") (by rfl) T.m_tuple (by decide +kernel) rfl) (pa_cons (pe_bltn (v := .ty "list") (u := .type "list") (by rfl) T.m_list (by decide +kernel) rfl) pa_nil))) pa_nil))))
        (pss_one (ps_ret (pe_op op_cat (pe_lst (pa_cons (pe_callB (kIsi (K := K)) (by rfl) T.m_isinstance (by decide +kernel) (pa_cons (pv 0) (pa_cons (pe_bltn (v := .ty "list") (u := .type "list") (by rfl) T.m_list (by decide +kernel) rfl) pa_nil))) pa_nil)) (pe_lcK (own := [("item", 1)]) (vs := [1]) (g := gName 1) (tt := tYes) rfl (by rfl) sc_u_law_plain.nd (pi_or (pi_listK (K := K) (pv 0)) (pi_tupK (K := K) (pv 0))) (blkOk_by (own := [("item", 1)]) (N := N_u_law_plain) (sc := defScope s_u_law_plain) (by decide +kernel)) (fun _ _ _ _ _ => pg_name (i := 1) sc_u_law_plain.nd rfl (by first | exact Or.inl rfl | exact Or.inr rfl) (by first | exact Or.inl rfl | exact Or.inr rfl)) (fun _ _ _ _ _ => pts_nil) (fun _ _ _ _ _ => (pe_call ih hr (by rfl) T.g_u_law_plain T.F_u_law_plain.kp T.b_u_law_plain .nil pass0 (pa_cons (pv 1) pa_nil)))))))
        pss_nil)
      (pss_cons (ps_if (PW.pt (pw_or (pt_cmpR op_isN (pv 0) pe_non (nomark _)) (pw_or1 (pt_val (pe_callB (kIsi (K := K)) (by rfl) T.m_isinstance (by decide +kernel) (pa_cons (pv 0) (pa_cons (pe_bltn (v := .ty "bool") (u := .type "bool") (by rfl) T.m_bool (by decide +kernel) rfl) pa_nil)))))))
        (pss_one (ps_ret (pe_ix (kIxL (K := K)) (pe_lst (pa_cons pe_str (pa_cons pe_str (pa_cons pe_str pa_nil)))) (pe_op op_add (pe_callTy cInt (by rfl) T.m_int (by decide +kernel) (pa_cons (pe_cmpR op_notN (pv 0) pe_non (nomark _)) pa_nil)) (pe_callTy cInt (by rfl) T.m_int (by decide +kernel) (pa_cons (pe_cmpR op_isX (pv 0) pe_bl (nomark _)) pa_nil))) (fun _ _ => rfl))))
        pss_nil)
      (pss_one (ps_ret (pe_ifExp (pt_val (pe_callB (kIsiT (K := K)) (by rfl) T.m_isinstance (by decide +kernel) (pa_cons (pv 0) (pa_cons (pe_tup (pa_cons (pe_bltn (v := .ty "int") (u := .type "int") (by rfl) T.m_int (by decide +kernel) rfl) (pa_cons (pe_bltn (v := .ty "str") (u := .type "str") (by rfl) T.m_str (by decide +kernel) rfl) pa_nil))) pa_nil)))) (pe_lst (pa_cons (pe_callB (kIsi (K := K)) (by rfl) T.m_isinstance (by decide +kernel) (pa_cons (pv 0) (pa_cons (pe_bltn (v := .ty "str") (u := .type "str") (by rfl) T.m_str (by decide +kernel) rfl) pa_nil))) (pa_cons (pv 0) pa_nil))) pe_str))))), ?_⟩
      cases hd with
      | non =>
        walk_at "go"
        rename Kn _ _ _ _ => kk
        refine s_isi2 kk (kk.get 0 rfl) .non k5 k6 ?_
        walk_at "go"
        refine ite_no rfl ?_
        walk_at "go"
        refine ⟨rfl, ?_⟩
        walk_at "go"
        refine ite_yes (by decide) ?_
        walk_at "go"
        refine iteT ?_
        walk_at "go"
        refine ⟨rfl, ?_⟩
        walk_at "go"
        refine ⟨true, rfl, .inl rfl, ?_⟩
        walk_at "go"
        rename Kn _ _ _ _ => kk
        exact q S _ _ (fun _ _ h => h) (fun a u z => kk.toSame a u (sS a u z)) kk.toSame (fun a h => .inl h) (.str _)
      | bl b =>
        walk_at "go"
        rename Kn _ _ _ _ => kk
        refine s_isi2 kk (kk.get 0 rfl) (.bl b) k7 k8 ?_
        walk_at "go"
        refine ite_no rfl ?_
        walk_at "go"
        refine ⟨rfl, ?_⟩
        walk_at "go"
        refine ite_no (by simp) ?_
        walk_at "go"
        refine s_isi (.bl b) k13 ?_
        walk_at "go"
        refine iteT ?_
        walk_at "go"
        refine ⟨rfl, ?_⟩
        walk_at "go"
        refine ⟨true, rfl, .inr ⟨b, rfl⟩, ?_⟩
        walk_at "go"
        rename Kn _ _ _ _ => kk
        cases b with
        | true => 
          refine s_ixL (kn_sq kk 0 rfl) (v := .str "True") (by decide) ?_
          exact q S _ _ (fun _ _ h => h) (fun a u z => kk.toSame a u (sS a u z)) kk.toSame (fun a h => .inl h) (.str _)
        | false => 
          refine s_ixL (kn_sq kk 0 rfl) (v := .str "False") (by decide) ?_
          exact q S _ _ (fun _ _ h => h) (fun a u z => kk.toSame a u (sS a u z)) kk.toSame (fun a h => .inl h) (.str _)
      | int i =>
        walk_at "go"
        rename Kn _ _ _ _ => kk
        refine s_isi2 kk (kk.get 0 rfl) (.int i) k9 k10 ?_
        walk_at "go"
        refine ite_no rfl ?_
        walk_at "go"
        refine ⟨rfl, ?_⟩
        walk_at "go"
        refine ite_no (by simp) ?_
        walk_at "go"
        refine s_isi (.int i) k14 ?_
        walk_at "go"
        refine iteF ?_
        walk_at "go"
        refine s_if ?_
        walk_at "go"
        rename Kn _ _ _ _ => kk
        refine s_isi2 kk (kk.get 0 rfl) (.int i) k16 k19 ?_
        walk_at "go"
        refine iteT ?_
        walk_at "go"
        refine s_isi (.int i) k19 ?_
        walk_at "go"
        rename_i p H1 kk
        obtain ⟨a1, a2, a3⟩ := ext_new (p := p) sS (kk.nw_at 0 rfl) kk.toSame (kk.get 0 rfl)
        exact q _ _ _ a1 a2 kk.toSame a3 (.lst (.inl (.inl upd_same)) (.cons (.bl false) (.cons (.int i) .nil)))
      | str z =>
        walk_at "go"
        rename Kn _ _ _ _ => kk
        refine s_isi2 kk (kk.get 0 rfl) (.str z) k11 k12 ?_
        walk_at "go"
        refine ite_no rfl ?_
        walk_at "go"
        refine ⟨rfl, ?_⟩
        walk_at "go"
        refine ite_no (by simp) ?_
        walk_at "go"
        refine s_isi (.str z) k15 ?_
        walk_at "go"
        refine iteF ?_
        walk_at "go"
        refine s_if ?_
        walk_at "go"
        rename Kn _ _ _ _ => kk
        refine s_isi2 kk (kk.get 0 rfl) (.str z) k17 k18 ?_
        walk_at "go"
        refine iteT ?_
        walk_at "go"
        refine s_isi (.str z) k18 ?_
        walk_at "go"
        rename_i p H1 kk
        obtain ⟨a1, a2, a3⟩ := ext_new (p := p) sS (kk.nw_at 0 rfl) kk.toSame (kk.get 0 rfl)
        exact q _ _ _ a1 a2 kk.toSame a3 (.lst (.inl (.inl upd_same)) (.cons (.bl true) (.cons (.str z) .nil)))
      | @lst a xs ds h t =>
        have hv : Dp K H (.ref a) (.list ds) := dp_mono sS (.lst h t)
        have hS := same_sq sS h
        obtain ⟨hlen, hall⟩ := okd_list hok
        walk_at "go"
        rename Kn _ _ _ _ => kk
        refine s_isi2 kk (kk.get 0 rfl) (dp_mono kk.toSame hv) k1 k2 ?_
        walk_at "go"
        refine iteT ?_
        walk_at "go"
        refine s_isi (dp_mono kk.toSame hv) k2 ?_
        walk_at "go"
        rename_i p H1 kk
        have sH1 := kk.toSame
        have hp1 := kk.get 0 rfl
        refine .inl (s_var rfl ⟨a, rfl, ⟨xs, same_sq sH1 hS⟩, fun D hD => ?_⟩)
        refine lc_list (xs := xs) (fun i H2 => ∃ acc S2, H2 D = some (.lst acc) ∧ Same H1 H2 ∧ Same S S2 ∧ Same S2 H2 ∧ S2 D = none ∧ (∀ a, S2 a ≠ none → S a ≠ none ∨ H a = none) ∧ DpAll K S2 acc ((ds.take i).map (plainD n)) ∧ i ≤ ds.length)
          ⟨[], S, upd_same, fun b u z => ?_, fun _ _ z => z, fun b u z => ?_, ?_, fun _ z => .inl z, by rw [List.take_zero]; exact .nil, Nat.zero_le _⟩ (fun i H2 hi ⟨acc, S2, _, s12, _⟩ => same_sq s12 (same_sq sH1 hS)) (fun i x H2 hx ⟨acc, S2, hD2, s12, sS2, s22, nD, fr, hacc, hi⟩ => ?_) (fun H2 ⟨acc, S2, hD2, s12, sS2, s22, nD, fr, hacc, hi⟩ => ?_)
        · rw [upd_ne (fun q => by subst q; rw [hD] at z; cases z)]; exact z
        · have z' := sH1 b u (sS b u z)
          rw [upd_ne (fun q => by subst q; rw [hD] at z'; cases z')]; exact z'
        · cases z : S D with
          | none => rfl
          | some u => rw [sH1 _ _ (sS _ _ z)] at hD; cases hD
        · obtain ⟨e, he, hxe⟩ := dpa_get t i x hx
          refine ⟨wipe1 _, ?_⟩
          show tCall (spn_plain K n) [] E0 (tCons (tVar 1) tNil) ((wipe [some (V.ref a), none] [1]).set 1 (some x)) H2 _
          walk_at "go"
          refine ⟨S2, x, e, rfl, hall e (List.mem_of_getElem? he), s22, dp_mono sS2 hxe, fun S3 H3 v' s23 s33 sH23 fr3 hv' => ?_⟩
          have nD3 : S3 D = none := by
            cases z : S3 D with
            | none => rfl
            | some u =>
              rcases fr3 D (by rw [z]; exact fun z => nomatch z) with w | w
              · exact absurd nD w
              · rw [hD2] at w; cases w
          have hal : acc.length ≤ 100000 := by rw [dpa_len hacc, List.length_map, List.length_take]; omega
          have hi' : i < ds.length := (List.getElem?_eq_some_iff.mp he).1
          refine ⟨acc, sH23 _ _ hD2, Nat.lt_of_le_of_lt hal (by decide), acc ++ [v'], S3, upd_same, fun b u z => ?_, fun b u z => s23 b u (sS2 b u z), fun b u z => ?_, nD3, fun b z => ?_, ?_, hi'⟩
          · rw [upd_ne (fun q => by subst q; rw [hD] at z; cases z)]; exact sH23 b u (s12 b u z)
          · rw [upd_ne (fun q => by subst q; rw [nD3] at z; cases z)]; exact s33 b u z
          · rcases fr3 b z with w | w
            · exact fr b w
            · refine .inr ?_
              cases z' : H b with
              | none => rfl
              | some u => rw [s12 _ _ (sH1 _ _ z')] at w; cases w
          · rw [List.take_add_one, he, List.map_append]
            exact dpa_snoc (dpa_mono s23 hacc) hv'
        · have el : ds.take xs.length = ds := List.take_of_length_le (by rw [dpa_len t]; exact Nat.le_refl _)
          rw [el] at hacc
          have hal : acc.length ≤ 100000 := by rw [dpa_len hacc, List.length_map]; omega
          refine ⟨p, D, _, acc, rfl, rfl, s12 _ _ hp1, hD2, Nat.le_trans (show 1 + acc.length ≤ 100001 by omega) (by decide), fun l hl => ?_⟩
          have sL : Same H2 (upd H2 l (.lst ([.bl true] ++ acc))) := fun b u z => by rw [upd_ne (fun q => by subst q; rw [hl] at z; cases z)]; exact z
          obtain ⟨a1, a2, a3⟩ := ext_new (p := l) s22 hl sL upd_same
          refine q _ _ _ (fun b u z => a1 b u (sS2 b u z)) a2 (fun b u z => sL b u (s12 b u (sH1 b u z))) (fun b z => ?_) (.lst (.inl (.inl upd_same)) (.cons (.bl true) (dpa_mono a1 hacc)))
          rcases a3 b z with w | w
          · exact fr b w
          · refine .inr ?_
            cases z' : H b with
            | none => rfl
            | some u => rw [s12 _ _ (sH1 _ _ z')] at w; cases w
      | @tup a xs ds h t =>
        have hv : Dp K H (.ref a) (.tuple ds) := dp_mono sS (.tup h t)
        have hS := same_tq sS h
        obtain ⟨hlen, hall⟩ := okd_tup hok
        walk_at "go"
        rename Kn _ _ _ _ => kk
        refine s_isi2 kk (kk.get 0 rfl) (dp_mono kk.toSame hv) k3 k4 ?_
        walk_at "go"
        refine iteT ?_
        walk_at "go"
        refine s_isi (dp_mono kk.toSame hv) k4 ?_
        walk_at "go"
        rename_i p H1 kk
        have sH1 := kk.toSame
        have hp1 := kk.get 0 rfl
        refine .inr (s_var rfl ⟨a, rfl, ⟨xs, same_tq sH1 hS⟩, fun D hD => ?_⟩)
        refine lc_tup (xs := xs) (fun i H2 => ∃ acc S2, H2 D = some (.lst acc) ∧ Same H1 H2 ∧ Same S S2 ∧ Same S2 H2 ∧ S2 D = none ∧ (∀ a, S2 a ≠ none → S a ≠ none ∨ H a = none) ∧ DpAll K S2 acc ((ds.take i).map (plainD n)) ∧ i ≤ ds.length)
          ⟨[], S, upd_same, fun b u z => ?_, fun _ _ z => z, fun b u z => ?_, ?_, fun _ z => .inl z, by rw [List.take_zero]; exact .nil, Nat.zero_le _⟩ (fun i H2 hi ⟨acc, S2, _, s12, _⟩ => same_tq s12 (same_tq sH1 hS)) (fun i x H2 hx ⟨acc, S2, hD2, s12, sS2, s22, nD, fr, hacc, hi⟩ => ?_) (fun H2 ⟨acc, S2, hD2, s12, sS2, s22, nD, fr, hacc, hi⟩ => ?_)
        · rw [upd_ne (fun q => by subst q; rw [hD] at z; cases z)]; exact z
        · have z' := sH1 b u (sS b u z)
          rw [upd_ne (fun q => by subst q; rw [hD] at z'; cases z')]; exact z'
        · cases z : S D with
          | none => rfl
          | some u => rw [sH1 _ _ (sS _ _ z)] at hD; cases hD
        · obtain ⟨e, he, hxe⟩ := dpa_get t i x hx
          refine ⟨wipe1 _, ?_⟩
          show tCall (spn_plain K n) [] E0 (tCons (tVar 1) tNil) ((wipe [some (V.ref a), none] [1]).set 1 (some x)) H2 _
          walk_at "go"
          refine ⟨S2, x, e, rfl, hall e (List.mem_of_getElem? he), s22, dp_mono sS2 hxe, fun S3 H3 v' s23 s33 sH23 fr3 hv' => ?_⟩
          have nD3 : S3 D = none := by
            cases z : S3 D with
            | none => rfl
            | some u =>
              rcases fr3 D (by rw [z]; exact fun z => nomatch z) with w | w
              · exact absurd nD w
              · rw [hD2] at w; cases w
          have hal : acc.length ≤ 100000 := by rw [dpa_len hacc, List.length_map, List.length_take]; omega
          have hi' : i < ds.length := (List.getElem?_eq_some_iff.mp he).1
          refine ⟨acc, sH23 _ _ hD2, Nat.lt_of_le_of_lt hal (by decide), acc ++ [v'], S3, upd_same, fun b u z => ?_, fun b u z => s23 b u (sS2 b u z), fun b u z => ?_, nD3, fun b z => ?_, ?_, hi'⟩
          · rw [upd_ne (fun q => by subst q; rw [hD] at z; cases z)]; exact sH23 b u (s12 b u z)
          · rw [upd_ne (fun q => by subst q; rw [nD3] at z; cases z)]; exact s33 b u z
          · rcases fr3 b z with w | w
            · exact fr b w
            · refine .inr ?_
              cases z' : H b with
              | none => rfl
              | some u => rw [s12 _ _ (sH1 _ _ z')] at w; cases w
          · rw [List.take_add_one, he, List.map_append]
            exact dpa_snoc (dpa_mono s23 hacc) hv'
        · have el : ds.take xs.length = ds := List.take_of_length_le (by rw [dpa_len t]; exact Nat.le_refl _)
          rw [el] at hacc
          have hal : acc.length ≤ 100000 := by rw [dpa_len hacc, List.length_map]; omega
          refine ⟨p, D, _, acc, rfl, rfl, s12 _ _ hp1, hD2, Nat.le_trans (show 1 + acc.length ≤ 100001 by omega) (by decide), fun l hl => ?_⟩
          have sL : Same H2 (upd H2 l (.lst ([.bl false] ++ acc))) := fun b u z => by rw [upd_ne (fun q => by subst q; rw [hl] at z; cases z)]; exact z
          obtain ⟨a1, a2, a3⟩ := ext_new (p := l) s22 hl sL upd_same
          refine q _ _ _ (fun b u z => a1 b u (sS2 b u z)) a2 (fun b u z => sL b u (s12 b u (sH1 b u z))) (fun b z => ?_) (.lst (.inl (.inl upd_same)) (.cons (.bl false) (dpa_mono a1 hacc)))
          rcases a3 b z with w | w
          · exact fr b w
          · refine .inr ?_
            cases z' : H b with
            | none => rfl
            | some u => rw [s12 _ _ (sH1 _ _ z')] at w; cases w
end

section
variable {P : Program} {w : World} {K : PySem.W.Frag} {mg : Str → Option Value} {base : Heap}
theorem ok_u_law_plain (T : Txt w K mg) : FnOk P w K mg base CX0 9 T.f_u_law_plain T.d_u_law_plain ["value"] (spn_plain K 8) := okn_plain T 8
def sp_u_law_same (K : PySem.W.Frag) : Sp := fun vs H Q _ => ∃ (x y : V) (e : PyData), vs = [x, y] ∧ okd 8 e = true ∧ Dp K H x e ∧ Dp K H y e ∧ ∀ H', Same H H' → Q (.bl true) H'
theorem ok_u_law_same (T : Txt w K mg) : FnOk P w K mg base CX0 10 T.f_u_law_same T.d_u_law_same ["told", "due"] (sp_u_law_same K) := by
  refine T.F_u_law_same.ok sc_u_law_same (fun vs H Q E h => ?_) (fun cdv A outer s H vs Q E hr h => ?_)
  · obtain ⟨_, _, _, rfl, _⟩ := h; rfl
  · obtain ⟨x, y, e, rfl, hok, hx, hy, q⟩ := h
    refine ⟨_, (pss_one (ps_ret (pe_cmpR (kEqD (K := K) hr.units) (pe_call (ok_u_law_plain T) hr (by rfl) T.g_u_law_plain T.F_u_law_plain.kp T.b_u_law_plain .nil pass0 (pa_cons (pv 0) pa_nil)) (pe_call (ok_u_law_plain T) hr (by rfl) T.g_u_law_plain T.F_u_law_plain.kp T.b_u_law_plain .nil pass0 (pa_cons (pv 1) pa_nil)) (nomark _)))), ?_⟩
    walk_at "go"
    refine ⟨H, x, e, rfl, hok, fun _ _ z => z, hx, fun S1 H1 v1 _ s1 sH1 _ hv1 => ?_⟩
    walk_at "go"
    refine ⟨H1, y, e, rfl, hok, fun _ _ z => z, dp_mono sH1 hy, fun S2 H2 v2 _ s2 sH2 _ hv2 => ?_⟩
    have sp := shape_plain 8 e hok
    have sh : SeqAt.shaped (plainD 8 e) = true := by
      unfold SeqAt.shaped
      rw [Bool.and_eq_true]
      exact ⟨sp.1, decide_eq_true (by omega)⟩
    exact s_eq_same (plainD 8 e) (dp_mono sH2 (dp_mono s1 hv1)) (dp_mono s2 hv2) sh (q _ (fun a u z => sH2 a u (sH1 a u z)))
end

/-! ### texts -/
open TL
section
variable {K : PySem.W.Frag} {H H0 : Hp} {Q : VK} {QS : L2.St → Hp → Prop} {σ : L2.St} {te ta tb : TE} {tt : TT} {d : Option Addr} {G : List (Addr × HO)} {p : Addr} {xs : List V} {z a b : Str} {i : Int} {j : Nat} {lo hi : Option Int} {ys : List Str}
theorem s_lenS (h : z.length ≤ 1000000) (q : Q (.int (tl z).length) H) : rLenS [.str z] H Q := ⟨z, rfl, Nat.le_trans h (by decide), by rw [len_tl]; exact q⟩
theorem s_addS (h : a.length + b.length ≤ 1000000) (q : Q (.str (a ++ b)) H) : rAddS (.str a) (.str b) H Q := ⟨a, b, rfl, rfl, Nat.le_trans h (by decide), q⟩
theorem s_slS (h : z.length ≤ 1000000) (q : Q (.str (cutS z lo hi)) H) : rSlS (.str z) lo hi H Q := ⟨z, rfl, Nat.le_trans h (by decide), q⟩
theorem s_inS {c : Nat} (q : Q (.bl (decide (c ∈ tl z))) H) : rInS (.str ⟨#[c]⟩) (.str z) H Q := ⟨c, z, rfl, rfl, q⟩
theorem s_ninS {c : Nat} (q : Q (.bl (!decide (c ∈ tl z))) H) : rNinS (.str ⟨#[c]⟩) (.str z) H Q := ⟨c, z, rfl, rfl, q⟩
theorem s_starts (q : Q (.bl (Txt.startswith a b)) H) : rStarts (.str a) [.str b] H Q := ⟨a, b, rfl, rfl, q⟩
theorem s_stripC (h : a.length ≤ 1000000) (q : Q (.str (Txt.stripChars a b)) H) : rStripC (.str a) [.str b] H Q := ⟨a, b, rfl, rfl, Nat.le_trans h (by decide), q⟩
theorem s_split (kn : Kn d H0 G H) (hb : (b.length == 0) = false) (h : a.length ≤ 1000000) (q : ∀ p H', Kn d H0 ((p, .lst ((Txt.split a b).map V.str)) :: G) H' → Q (.ref p) H') : rSplit (.str a) [.str b] H Q :=
  ⟨a, b, rfl, rfl, hb, Nat.le_trans (show a.length + 2 ≤ 1000002 by omega) (by decide), fun p hp => q p _ (kn.new hp)⟩
theorem s_join (h : SqL K H p (ys.map V.str)) (hs : (ys.map (·.length)).sum + ys.length * a.length ≤ 16777216) (q : Q (.str (Txt.join a ys)) H) : rJoin K (.str a) [.ref p] H Q := ⟨a, p, ys, rfl, rfl, .inl h, hs, q⟩
theorem s_repS {n : Int} (h0 : 0 ≤ n) (h1 : n ≤ 100000) (ha : a.length = 1) (q : Q (.str ⟨(List.replicate n.toNat (tl a)).flatten.toArray⟩) H) : rRepS (.str a) (.int n) H Q := ⟨a, n, rfl, rfl, h0, h1, ha, q⟩
def CS (j : Nat) (tt : TT) (te : TE) (σ : L2.St) (Q : VK) (v : V) (H1 : Hp) : Prop := ∃ x, v = .str x ∧ (fun J H1 => ∀ D, H1 D = none → ∃ W : Nat → Nat → Hp → Prop, (∃ m, W 0 m (upd H1 D (.lst []))) ∧ ∀ i m H, W i m H →
  (It.stop J i H ∧ Q (.ref D) H) ∨ (It.go J i H ∧ ∃ Nx : Hp → Prop, (∀ H', Nx H' → ∃ m', m' < m ∧ W (i + 1) m' H') ∧ ∀ x H', It.yld J i H x H' → gName j x (wipe σ [j]) H' fun σ2 H2 => wipe σ2 [j] = wipe σ [j] ∧ tt σ2 H2 fun b H3 =>
    if b = true then te σ2 H3 fun y H4 => ∃ acc, H4 D = some (.lst acc) ∧ acc.length < sizeLine ∧ Nx (upd H4 D (.lst (acc ++ [y]))) else Nx H3)) (Its x) H1
theorem s_lcS (q : te σ H fun x H1 => CS j tt ta σ Q x H1) : tLc (iStr te) (gName j) tt ta [j] σ H Q := q
theorem n_lcS (h1 : z.length ≤ 100000) (k : Kn d H0 G H) (R : Nat → List V → Prop) (r0 : R 0 [])
    (rs : ∀ i c acc D H2, (tl z)[i]? = some c → R i acc → Kn d H0 ((D, .lst acc) :: G) H2 → ∀ Q' : Bool → Hp → Prop, (∀ b H3, Kn d H0 ((D, .lst acc) :: G) H3 → (b = false → R (i + 1) acc) →
      (b = true → ∀ Q'' : VK, (∀ y H4, R (i + 1) (acc ++ [y]) → Kn d H0 ((D, .lst acc) :: G) H4 → Q'' y H4) → te ((wipe σ [j]).set j (some (.str ⟨#[c]⟩))) H3 Q'') → Q' b H3) → tt ((wipe σ [j]).set j (some (.str ⟨#[c]⟩))) H2 Q')
    (rl : ∀ i acc, R i acc → acc.length ≤ i) (rd : ∀ acc D H2, R (tl z).length acc → Kn d H0 ((D, .lst acc) :: G) H2 → Q (.ref D) H2) : CS j tt te σ Q (.str z) H := by
  have hz : z.cps.size = (tl z).length := by simp [tl]
  have hz2 : z.length = (tl z).length := len_tl z
  refine ⟨z, rfl, fun D hD => ?_⟩
  refine lc_it walk_str (fun i H2 => ∃ acc, R i acc ∧ Kn d H0 ((D, .lst acc) :: G) H2) ⟨[], r0, k.new hD⟩ (fun _ _ _ _ => trivial) (fun i x H2 H3 hi ⟨acc, ra, ka⟩ y => ?_) (fun H2 ⟨acc, ra, ka⟩ => rd acc D H2 (hz ▸ ra) ka)
  obtain ⟨rfl, c, hc, rfl⟩ := y
  have hc' : (tl z)[i]? = some c := by rw [← hc]; simp [tl]
  refine ⟨wipe1 _, ?_⟩
  show tt ((wipe σ [j]).set j (some (.str ⟨#[c]⟩))) H3 _
  refine rs i c acc D H3 hc' ra ka _ fun b H4 k4 hf ht => ?_
  cases b with
  | false => exact iteF ⟨acc, hf rfl, k4⟩
  | true =>
    refine iteT (ht rfl _ fun y H5 r1 k1 => ?_)
    exact ⟨acc, k1.get 0 rfl, Nat.lt_of_le_of_lt (rl i acc ra) (Nat.lt_of_lt_of_le (show i < 100001 by omega) (by decide)), _, r1, k1.put 0 rfl⟩
theorem n_tyS {P : Prop} (q : P) : tyV K "str" (.str z) H ∧ P := ⟨rfl, q⟩
theorem s_all {bs : List Bool} (h : SqL K H p (bs.map V.bl)) (q : Q (.bl (bs.all id)) H) : rAll K [.ref p] H Q := ⟨p, bs, rfl, h, q⟩
end
/-! ### parts between the slashes -/
def spN : List Nat → List (List Nat)
  | [] => [[]]
  | c :: r => if c = 47 then [] :: spN r else match spN r with
    | p :: ps => (c :: p) :: ps
    | [] => [[c]]
theorem spN_ne : ∀ l, spN l ≠ []
  | [] => by simp [spN]
  | c :: r => by
    unfold spN
    split
    · simp
    · split <;> simp
theorem spN_free : ∀ l, ∀ p ∈ spN l, 47 ∉ p
  | [], p, h => by
    rw [List.mem_singleton.mp h]; simp
  | c :: r, p, h => by
    have ih := spN_free r
    unfold spN at h
    split at h
    · rcases List.mem_cons.mp h with rfl | h
      · simp
      · exact ih p h
    · rename_i hc
      split at h
      · rename_i q ps e
        rcases List.mem_cons.mp h with rfl | h
        · have := ih q (by rw [e]; simp)
          simp only [List.mem_cons, not_or]
          exact ⟨fun z => hc z.symm, this⟩
        · exact ih p (by rw [e]; simp [h])
      · rename_i e
        exact absurd e (spN_ne r)
theorem spN_join : ∀ l, joinL [47] (spN l) = l
  | [] => rfl
  | c :: r => by
    have ih := spN_join r
    unfold spN
    split
    · rename_i hc
      subst hc
      cases e : spN r with
      | nil => exact absurd e (spN_ne r)
      | cons q ps =>
        rw [e] at ih
        show [] ++ ([47] ++ joinL [47] (q :: ps)) = 47 :: r
        rw [ih]; rfl
    · cases e : spN r with
      | nil => exact absurd e (spN_ne r)
      | cons q ps =>
        rw [e] at ih
        cases ps with
        | nil =>
          show c :: q = c :: r
          rw [show q = r from ih]
        | cons q2 ps =>
          show (c :: q) ++ ([47] ++ joinL [47] (q2 :: ps)) = c :: r
          rw [← ih]; rfl
theorem spN_app : ∀ (a b : List Nat), spN (a ++ 47 :: b) = spN a ++ spN b
  | [], b => by
    show (if (47 : Nat) = 47 then [] :: spN b else _) = [[]] ++ spN b
    rw [if_pos rfl]; rfl
  | c :: a, b => by
    have ih := spN_app a b
    show spN (c :: (a ++ 47 :: b)) = spN (c :: a) ++ spN b
    by_cases hc : c = 47
    · rw [show spN (c :: (a ++ 47 :: b)) = [] :: spN (a ++ 47 :: b) from if_pos hc, show spN (c :: a) = [] :: spN a from if_pos hc, ih]; rfl
    · cases e : spN a with
      | nil => exact absurd e (spN_ne a)
      | cons q ps =>
        rw [show spN (c :: (a ++ 47 :: b)) = (match spN (a ++ 47 :: b) with | p :: ps => (c :: p) :: ps | [] => [[c]]) from if_neg hc, show spN (c :: a) = (match spN a with | p :: ps => (c :: p) :: ps | [] => [[c]]) from if_neg hc, ih, e]; rfl
theorem spN_mem : ∀ (l : List Nat) (c : Nat), c ∈ l → c ≠ 47 → ∃ p ∈ spN l, c ∈ p
  | [], c, h, _ => by simp at h
  | x :: r, c, h, hc => by
    rcases List.mem_cons.mp h with e | h
    · subst e
      cases e : spN r with
      | nil => exact absurd e (spN_ne r)
      | cons q ps => exact ⟨c :: q, by unfold spN; rw [if_neg hc, e]; simp, by simp⟩
    · obtain ⟨p, hp, hcp⟩ := spN_mem r c h hc
      by_cases hx : x = 47
      · exact ⟨p, by unfold spN; rw [if_pos hx]; simp [hp], hcp⟩
      · cases e : spN r with
        | nil => exact absurd e (spN_ne r)
        | cons q ps =>
          rw [e] at hp
          rcases List.mem_cons.mp hp with rfl | hp
          · exact ⟨x :: p, by unfold spN; rw [if_neg hx, e]; simp, by simp [hcp]⟩
          · exact ⟨p, by unfold spN; rw [if_neg hx, e]; simp [hp], hcp⟩
abbrev slash : Str := "/"
theorem tl_slash : tl slash = [47] := by decide +kernel
def ofL (l : List Nat) : Str := ⟨l.toArray⟩
theorem tl_ofL (l : List Nat) : tl (ofL l) = l := rfl
theorem split_slash (z : Str) : Txt.split z slash = (spN (tl z)).map ofL := by
  have h := split_join (y := slash) tl_slash (by decide +kernel) (parts := (spN (tl z)).map ofL) (by simp [spN_ne]) (fun p hp => by
    obtain ⟨q, hq, rfl⟩ := List.mem_map.mp hp
    exact spN_free _ q hq)
  have e : Txt.join slash ((spN (tl z)).map ofL) = z := ext_tl (by
    rw [join_eq, tl_join, List.map_map, show (tl ∘ ofL) = id from rfl, List.map_id, tl_slash, spN_join])
  rw [e] at h
  exact h
theorem starts_slash (z : Str) : Txt.startswith z slash = decide ((tl z).head? = some 47) := by
  unfold Txt.startswith
  cases h : tl z with
  | nil =>
    have : z.length = 0 := by rw [len_tl, h]; rfl
    rw [this]; rfl
  | cons c r =>
    have hz : z = ⟨(c :: r).toArray⟩ := ext_tl h
    subst hz
    show (decide (0 + slash.length ≤ (c :: r).length) && (((c :: r).toArray.extract 0 (0 + slash.length)) == slash.cps)) = _
    rw [show slash.length = 1 by decide +kernel, show slash.cps = #[47] by decide +kernel, decide_eq_true (by simp)]
    by_cases e : c = 47
    · subst e; simp
    · simp [e]
theorem cut_one (z : Str) : tl (cutS z (some 1) none) = (tl z).drop 1 := by
  have h : HT.sIx z.length 0 (some 1) = min 1 z.length := HT.sIx_nat z.length 0 1
  show ((tl z).drop (HT.sIx z.length 0 (some 1))).take (HT.sIx z.length z.length none - HT.sIx z.length 0 (some 1)) = _
  rw [h, HT.sIx_none, len_tl]
  by_cases e : 1 ≤ (tl z).length
  · rw [Nat.min_eq_left e]
    exact List.take_of_length_le (by rw [List.length_drop]; exact Nat.le_refl _)
  · have e : (tl z) = [] := List.length_eq_zero_iff.mp (by omega)
    rw [e]; rfl
open PyProof.Rows Builtin.Str in
theorem strip_dot (x : Str) : Txt.stripChars x "." = "" ↔ ∀ c ∈ tl x, c = 46 := by
  have hg : ∀ c, ((Str.ofString ".").cps.contains c) = decide (c = 46) := fun c => by
    rw [show (Str.ofString ".").cps = #[46] by decide +kernel]
    by_cases h : c = 46 <;> simp [h]
  unfold Txt.stripChars
  rw [stripBy_eq]
  obtain ⟨a1, a2, a3⟩ := lo_facts ((Str.ofString ".").cps.contains) x
  generalize stripLo ((Str.ofString ".").cps.contains) true x = lo at a1 a2 a3 ⊢
  obtain ⟨b1, b2, b3, b4⟩ := hi_facts ((Str.ofString ".").cps.contains) x lo a1
  generalize stripHi ((Str.ofString ".").cps.contains) true x lo = hi at b1 b2 b3 b4 ⊢
  have hl := len_tl x
  have get : ∀ k, k < x.length → x.cps.getD k 0 ∈ tl x := fun k hk => by
    rw [← getD_list]
    have : k < (tl x).length := by omega
    rw [List.getD_eq_getElem?_getD, List.getElem?_eq_getElem this]
    exact List.getElem_mem this
  have empty : strSub x lo hi = "" ↔ hi ≤ lo := by
    have hlen : (strSub x lo hi).length = hi - lo := by
      show (x.cps.extract lo hi).size = _
      rw [Array.size_extract]
      have : x.cps.size = x.length := rfl
      omega
    constructor
    · intro e
      rw [e] at hlen
      have : (Str.ofString "").length = 0 := by decide +kernel
      omega
    · intro e
      refine ext_tl (List.length_eq_zero_iff.mp ?_ |>.trans (by decide +kernel))
      rw [← len_tl]; omega
  rw [empty]
  constructor
  · intro e c hc
    obtain ⟨k, hk, hkc⟩ := List.getElem_of_mem hc
    have hc' : x.cps.getD k 0 = c := by
      rw [← getD_list, List.getD_eq_getElem?_getD, List.getElem?_eq_getElem hk, hkc]; rfl
    have : (Str.ofString ".").cps.contains (x.cps.getD k 0) = true := by
      by_cases q : k < lo
      · exact a2 k q
      · exact b3 k (by omega) (by omega)
    rw [hg, hc'] at this
    exact of_decide_eq_true this
  · intro e
    have hlo : lo = x.length := by
      rcases a3 with q | q
      · exact q
      · by_cases w : lo < x.length
        · rw [hg, decide_eq_true (e _ (get lo w))] at q; cases q
        · omega
    omega
theorem filt_t {α : Type} {l : List α} {i : Nat} {c : α} {f : α → Bool} (hc : l[i]? = some c) (h : f c = true) : (l.take (i + 1)).filter f = (l.take i).filter f ++ [c] := by
  rw [List.take_add_one, hc, List.filter_append]
  simp [h]
theorem filt_f {α : Type} {l : List α} {i : Nat} {c : α} {f : α → Bool} (hc : l[i]? = some c) (h : f c = false) : (l.take (i + 1)).filter f = (l.take i).filter f := by
  rw [List.take_add_one, hc, List.filter_append]
  simp [h]
theorem canLay_strs : ∀ ys : List Str, (∀ y ∈ ys, PyData.strOk y = true) → PyData.canLayAll0 (ys.map PyData.str) = true ∧ PyData.depthAll (ys.map PyData.str) ≤ 1
  | [], _ => by simp [PyData.canLayAll0, PyData.depthAll]
  | y :: ys, h => by
    have ih := canLay_strs ys (fun z hz => h z (by simp [hz]))
    have h0 := h y (by simp)
    simp only [List.map_cons, PyData.canLayAll0, PyData.depthAll, PyData.canLay0, PyData.depth, h0, ih.1, Bool.and_self, true_and]
    omega
theorem shaped_strs {ys : List Str} (h : ∀ y ∈ ys, PyData.strOk y = true) : SeqAt.shaped (.list (ys.map PyData.str)) = true := by
  have c := canLay_strs ys h
  unfold SeqAt.shaped
  rw [Bool.and_eq_true]
  exact ⟨by simp only [PyData.canLay0]; exact c.1, decide_eq_true (by simp only [PyData.depth]; omega)⟩
theorem eqvAll_strs : ∀ ys zs : List Str, PyData.eqvAll (ys.map PyData.str) (zs.map PyData.str) = decide (ys = zs)
  | [], [] => rfl
  | [], m :: ms => by simp [PyData.eqvAll]
  | n :: ns, [] => by simp [PyData.eqvAll]
  | n :: ns, m :: ms => by
    show ((n == m) && PyData.eqvAll (ns.map PyData.str) (ms.map PyData.str)) = _
    rw [eqvAll_strs ns ms]
    by_cases h : n = m <;> by_cases h' : ns = ms <;> simp [h, h']
theorem dpa_strs {K : PySem.W.Frag} {H : Hp} : ∀ {ys : List Str}, DpAll K H (ys.map V.str) (ys.map PyData.str)
  | [] => .nil
  | y :: _ => .cons (.str y) dpa_strs
section
variable {K : PySem.W.Frag} {H : Hp} {Q : VK} {p q : Addr} {ys zs : List Str}
theorem s_eqLS (h1 : SqL K H p (ys.map V.str)) (h2 : SqL K H q (zs.map V.str)) (o1 : ∀ y ∈ ys, PyData.strOk y = true) (o2 : ∀ y ∈ zs, PyData.strOk y = true) (c : Q (.bl (decide (ys = zs))) H) : rEqD K (.ref p) (.ref q) H Q :=
  ⟨_, _, .lst h1 dpa_strs, .lst h2 dpa_strs, shaped_strs o1, shaped_strs o2, by rw [show PyData.eqv (.list (ys.map PyData.str)) (.list (zs.map PyData.str)) = decide (ys = zs) from eqvAll_strs ys zs]; exact c⟩
theorem s_neLS (h1 : SqL K H p (ys.map V.str)) (h2 : SqL K H q (zs.map V.str)) (o1 : ∀ y ∈ ys, PyData.strOk y = true) (o2 : ∀ y ∈ zs, PyData.strOk y = true) (c : Q (.bl (!decide (ys = zs))) H) : rNeD K (.ref p) (.ref q) H Q :=
  ⟨_, _, .lst h1 dpa_strs, .lst h2 dpa_strs, shaped_strs o1, shaped_strs o2, by rw [show PyData.eqv (.list (ys.map PyData.str)) (.list (zs.map PyData.str)) = decide (ys = zs) from eqvAll_strs ys zs]; exact c⟩
end
theorem strOk_of {z : Str} (h : ∀ c ∈ tl z, c < 256) : PyData.strOk z = true := by
  show z.cps.all (· < 0x110000) = true
  rw [← Array.all_toList]
  exact List.all_eq_true.mpr fun c hc => decide_eq_true (Nat.lt_trans (h c hc) (by decide))
local macro_rules | `(tactic| walk_at "sl") => `(tactic| first | assumption | omega | decide +kernel)
local macro_rules | `(tactic| walk_at "go1") => `(tactic| (first
  | ((with_reducible refine' s_lenS ?gA ?_); (case gA => walk_at "sl"))
  | ((with_reducible refine' s_addS ?gA ?_); (case gA => walk_at "sl"))
  | ((with_reducible refine' s_slS ?gA ?_); (case gA => walk_at "sl"))
  | with_reducible refine s_inS ?_
  | with_reducible refine s_ninS ?_
  | with_reducible refine s_starts ?_
  | ((with_reducible refine' s_stripC ?gA ?_); (case gA => walk_at "sl"))
  | ((rename Kn _ _ _ _ => kk); (with_reducible refine' s_split kk ?gA ?gB ?_); (case gA => decide +kernel); (case gB => walk_at "sl"); clear kk; intro _ _ kk)
  | with_reducible refine n_tyS ?_
  | with_reducible refine s_lcS ?_))

/-! ### names and paths -/
abbrev goodS : Str := "ABCDEFGHIJKLMNOPQRSTUVWXYZabcdefghijklmnopqrstuvwxyz0123456789_-."
def isN (l : List Nat) : Bool := decide (1 ≤ l.length) && decide (l.length ≤ 32) && l.all (fun c => decide (c ∈ tl goodS)) && !(l.all (fun c => decide (c = 46)))
def hasN (l : List Nat) : Bool := decide ((spN l).length ≤ 16) && (spN l).all isN
def isP (l : List Nat) : Bool := decide (l = [47]) || decide (l.head? = some 47) && decide (l.length ≤ 256) && hasN (l.drop 1)
def isT (l : List Nat) : Bool := isP l || decide (l.length ≤ 256) && hasN l
theorem spN_len : ∀ (l p : List Nat), p ∈ spN l → p.length ≤ l.length
  | [], p, h => by rw [List.mem_singleton.mp h]; exact Nat.le_refl _
  | c :: r, p, h => by
    have ih := spN_len r
    unfold spN at h
    split at h
    · rcases List.mem_cons.mp h with rfl | h
      · exact Nat.zero_le _
      · exact Nat.le_succ_of_le (ih p h)
    · split at h
      · rename_i q ps e
        rcases List.mem_cons.mp h with rfl | h
        · exact Nat.succ_le_succ (ih q (by rw [e]; simp))
        · exact Nat.le_succ_of_le (ih p (by rw [e]; simp [h]))
      · rename_i e
        exact absurd e (spN_ne r)
theorem spN_count : ∀ (l : List Nat), (spN l).length ≤ l.length + 1
  | [] => Nat.le_refl _
  | c :: r => by
    have ih := spN_count r
    unfold spN
    split
    · exact Nat.succ_le_succ ih
    · split
      · rename_i q ps e
        rw [e] at ih
        exact Nat.le_succ_of_le ih
      · exact Nat.le_add_left _ _
theorem all_map {α : Type} (l : List α) (f : α → Bool) : (l.map f).all id = l.all f := by
  induction l with
  | nil => rfl
  | cons x l ih => simp [ih]
section
variable {P : Program} {w : World} {K : PySem.W.Frag} {mg : Str → Option Value} {base : Heap}
def sp_is_name (K : PySem.W.Frag) : Sp := fun vs H Q _ => ∃ z, vs = [.str z] ∧ z.length ≤ 1000 ∧ ∀ H', Same H H' → Q (.bl (isN (tl z))) H'
set_option maxHeartbeats 0 in
theorem ok_is_name (T : Txt w K mg) : FnOk P w K mg base CX0 1 T.f_is_name T.d_is_name ["text"] (sp_is_name K) := by
  refine T.F_is_name.ok sc_is_name (fun vs H Q E h => ?_) (fun cdv A outer s H vs Q E hr h => ?_)
  · obtain ⟨_, rfl, _⟩ := h; rfl
  · obtain ⟨z, rfl, hz, q⟩ := h
    refine ⟨_, (pss_cons (ps_if (pt_not (pt_chain op_le op_le pe_int (pe_callB kLenS (by rfl) T.m_len (by decide +kernel) (pa_cons (pv 0) pa_nil)) (pe_glob (v := .int 32) (by rfl) T.v_NAME_MOST ⟨_, rfl⟩)))
        (pss_one (ps_ret pe_bl))
        pss_nil)
      (pss_cons (ps_if (pt_not (pt_val (pe_callB (kAll (K := K) rfl) (by rfl) T.m_all (by decide +kernel) (pa_cons (pe_lcK (own := [("char", 1)]) (vs := [1]) (g := gName 1) (tt := tYes) rfl (by rfl) sc_is_name.nd (pi_str (pv 0)) (blkOk_by (own := [("char", 1)]) (N := N_is_name) (sc := defScope s_is_name) (by decide +kernel)) (fun _ _ _ _ _ => pg_name (i := 1) sc_is_name.nd rfl (by first | exact Or.inl rfl | exact Or.inr rfl) (by first | exact Or.inl rfl | exact Or.inr rfl)) (fun _ _ _ _ _ => pts_nil) (fun _ _ _ _ _ => (pe_cmpR kInS (pv 1) (pe_glob (v := .str "ABCDEFGHIJKLMNOPQRSTUVWXYZabcdefghijklmnopqrstuvwxyz0123456789_-.") (by rfl) T.v_NAME_CHARS ⟨_, rfl⟩) (by rfl)))) pa_nil))))
        (pss_one (ps_ret pe_bl))
        pss_nil)
      (pss_one (ps_ret (pe_cmpR op_ne (pe_bmK (K := K) PySem.F.plainAttrs_str PySem.F.slot_str_strip PySem.F.type_str_strip kStripC (pv 0) (pa_cons pe_str pa_nil)) pe_str (nomark _)))))), ?_⟩
    have kk := Kn.nil (H := H)
    have hz' := len_tl z
    walk_at "go"
    refine ite_d (fun h1 => ?_) (fun h1 => ?_)
    rotate_left
    · walk_at "go"
      refine iteT ?_
      walk_at "go"
      rw [show false = isN (tl z) by unfold isN; rw [decide_eq_false (by omega)]; rfl]
      exact q _ kk.toSame
    walk_at "go"
    refine ite_nd (fun h2 => ?_) (fun h2 => ?_)
    · walk_at "go"
      rw [show false = isN (tl z) by unfold isN; rw [decide_eq_false (p := (tl z).length ≤ 32) (by omega), Bool.and_false]; rfl]
      exact q _ kk.toSame
    walk_at "go"
    refine n_lcS (by omega) kk (fun i acc => acc = (((tl z).take i).map (fun c => decide (c ∈ tl goodS))).map V.bl) rfl (fun i c acc D H2 hc ra ka Q' q' => ?_) (fun i acc e => by rw [e, List.length_map, List.length_map, List.length_take]; exact Nat.min_le_left _ _) (fun acc p1 H1 ra k1 => ?_)
    · refine q' _ _ ka (fun z => nomatch z) (fun _ Q'' q'' => ?_)
      walk_at "go"
      refine q'' _ _ ?_ ka
      rw [ra, List.take_add_one, hc, List.map_append, List.map_append]; rfl
    subst ra
    rw [List.take_of_length_le (Nat.le_refl _)] at k1
    clear kk
    walk_at "go"
    refine s_all (kn_sq k1 0 rfl) ?_
    rw [all_map]
    walk_at "go"
    refine ite_n (fun h3 => ?_) (fun h3 => ?_)
    · walk_at "go"
      rw [show false = isN (tl z) by unfold isN; rw [h3, Bool.and_false]; rfl]
      exact q _ k1.toSame
    walk_at "go"
    have e : decide (Txt.stripChars z (Str.ofString ".") = Str.ofString "") = (tl z).all (fun c => decide (c = 46)) := by
      by_cases h : ∀ c ∈ tl z, c = 46
      · rw [decide_eq_true ((strip_dot z).mpr h)]
        exact (List.all_eq_true.mpr fun c hc => decide_eq_true (h c hc)).symm
      · rw [decide_eq_false (fun q => h ((strip_dot z).mp q))]
        cases w : (tl z).all (fun c => decide (c = 46)) with
        | false => rfl
        | true => exact absurd (fun c hc => of_decide_eq_true (List.all_eq_true.mp w c hc)) h
    rw [e, show (!(tl z).all (fun c => decide (c = 46))) = isN (tl z) by
      unfold isN; rw [h3, decide_eq_true (show 1 ≤ (tl z).length by omega), decide_eq_true (show (tl z).length ≤ 32 by omega)]; rfl]
    exact q _ k1.toSame
def sp_has_names (K : PySem.W.Frag) : Sp := fun vs H Q _ => ∃ z, vs = [.str z] ∧ z.length ≤ 1000 ∧ ∀ H', Same H H' → Q (.bl (hasN (tl z))) H'
set_option maxHeartbeats 0 in
theorem ok_has_names (T : Txt w K mg) : FnOk P w K mg base CX0 2 T.f_has_names T.d_has_names ["text"] (sp_has_names K) := by
  refine T.F_has_names.ok sc_has_names (fun vs H Q E h => ?_) (fun cdv A outer s H vs Q E hr h => ?_)
  · obtain ⟨_, rfl, _⟩ := h; rfl
  · obtain ⟨z, rfl, hz, q⟩ := h
    refine ⟨_, (pss_cons (ps_set (i := 1) sc_has_names.nd rfl (by first | exact Or.inl rfl | exact Or.inr rfl) (pe_bmK (K := K) PySem.F.plainAttrs_str PySem.F.slot_str_split PySem.F.type_str_split kSplit (pv 0) (pa_cons pe_str pa_nil)))
      (pss_one (ps_ret (pe_and (pe_cmpR op_le (pe_callB (kLen (K := K)) (by rfl) T.m_len (by decide +kernel) (pa_cons (pv 1) pa_nil)) (pe_glob (v := .int 16) (by rfl) T.v_NAMES_MOST ⟨_, rfl⟩) (nomark _)) (pe_one (pe_callB (kAll (K := K) rfl) (by rfl) T.m_all (by decide +kernel) (pa_cons (pe_lcK (own := [("name", 2)]) (vs := [2]) (g := gName 2) (tt := tYes) rfl (by rfl) sc_has_names.nd (pi_listK (K := K) (pv 1)) (blkOk_by (own := [("name", 2)]) (N := N_has_names) (sc := defScope s_has_names) (by decide +kernel)) (fun _ _ _ _ _ => pg_name (i := 2) sc_has_names.nd rfl (by first | exact Or.inl rfl | exact Or.inr rfl) (by first | exact Or.inl rfl | exact Or.inr rfl)) (fun _ _ _ _ _ => pts_nil) (fun _ _ _ _ _ => (pe_call (ok_is_name T) hr (by rfl) T.g_is_name T.F_is_name.kp T.b_is_name .nil pass0 (pa_cons (pv 2) pa_nil)))) pa_nil))))))), ?_⟩
    have kk := Kn.nil (H := H)
    have hz' := len_tl z
    walk_at "go"
    rename_i p0 H0 k0
    rw [show Txt.split z (Str.ofString "/") = (spN (tl z)).map ofL from split_slash z, List.map_map] at k0 ⊢
    rw [List.length_map]
    refine ite_d (fun h1 => ?_) (fun h1 => ?_)
    rotate_left
    · rw [show false = hasN (tl z) by unfold hasN; rw [decide_eq_false (by omega)]; rfl]
      exact q _ k0.toSame
    walk_at "go"
    refine n_lcL (kn_sq k0 0 rfl) (by rw [List.length_map]; omega) k0 (fun D acc H2 k => kn_sq k 1 rfl) (fun i acc => acc = (((spN (tl z)).take i).map isN).map V.bl) rfl (fun i x acc D H2 hx ra ka Q' q' => ?_)
      (fun i acc e => by rw [e, List.length_map, List.length_map, List.length_take]; exact Nat.min_le_left _ _) (fun acc p1 H1 ra k1 => ?_)
    · rw [List.getElem?_map] at hx
      cases e : (spN (tl z))[i]? with
      | none => rw [e] at hx; cases hx
      | some l =>
        rw [e] at hx
        have hx : V.str (ofL l) = x := Option.some.inj hx
        subst hx
        have hl := spN_len (tl z) l (List.mem_of_getElem? e)
        refine q' _ _ ka (fun z => nomatch z) (fun _ Q'' q'' => ?_)
        walk_at "go"
        refine ⟨ofL l, rfl, by rw [len_tl, tl_ofL]; omega, fun H3 s3 => q'' _ _ ?_ (ka.same s3)⟩
        rw [ra, List.take_add_one, e, List.map_append, List.map_append]; rfl
    subst ra
    rw [List.length_map, List.take_of_length_le (Nat.le_refl _)] at k1
    walk_at "go"
    refine s_all (kn_sq k1 0 rfl) ?_
    rw [all_map, show (spN (tl z)).all isN = hasN (tl z) by unfold hasN; rw [decide_eq_true (by omega)]; rfl]
    exact q _ k1.toSame
def sp_is_path (K : PySem.W.Frag) : Sp := fun vs H Q _ => ∃ z, vs = [.str z] ∧ z.length ≤ 1000 ∧ ∀ H', Same H H' → Q (.bl (isP (tl z))) H'
theorem eq_slash (z : Str) : decide (z = Str.ofString "/") = decide (tl z = [47]) := by
  simp only [decide_eq_decide]
  constructor
  · intro h; rw [h]; exact tl_slash
  · intro h; exact ext_tl (h.trans tl_slash.symm)
theorem eq_empty (z : Str) : decide (z = Str.ofString "") = decide (tl z = []) := by
  have e : tl (Str.ofString "") = [] := by decide +kernel
  simp only [decide_eq_decide]
  constructor
  · intro h; rw [h]; exact e
  · intro h; exact ext_tl (h.trans e.symm)
set_option maxHeartbeats 0 in
theorem ok_is_path (T : Txt w K mg) : FnOk P w K mg base CX0 3 T.f_is_path T.d_is_path ["text"] (sp_is_path K) := by
  refine T.F_is_path.ok sc_is_path (fun vs H Q E h => ?_) (fun cdv A outer s H vs Q E hr h => ?_)
  · obtain ⟨_, rfl, _⟩ := h; rfl
  · obtain ⟨z, rfl, hz, q⟩ := h
    refine ⟨_, (pss_cons (ps_if (pt_cmpR op_eq (pv 0) pe_str (nomark _))
        (pss_one (ps_ret pe_bl))
        pss_nil)
      (pss_one (ps_ret (pe_and (pe_bmK (K := K) PySem.F.plainAttrs_str PySem.F.slot_str_startswith PySem.F.type_str_startswith kStarts (pv 0) (pa_cons pe_str pa_nil)) (pe_and (pe_cmpR op_le (pe_callB kLenS (by rfl) T.m_len (by decide +kernel) (pa_cons (pv 0) pa_nil)) (pe_glob (v := .int 256) (by rfl) T.v_PATH_MOST ⟨_, rfl⟩) (nomark _)) (pe_one (pe_call (ok_has_names T) hr (by rfl) T.g_has_names T.F_has_names.kp T.b_has_names .nil pass0 (pa_cons (pe_slice sl_str (pv 0) (po_some pe_int) po_none) pa_nil)))))))), ?_⟩
    have hz' := len_tl z
    have id : Same H H := fun _ _ z => z
    walk_at "go"
    rw [eq_slash]
    refine ite_d (fun h1 => ?_) (fun h1 => ?_)
    · walk_at "go"
      rw [show true = isP (tl z) by unfold isP; rw [decide_eq_true h1]; rfl]
      exact q _ id
    walk_at "go"
    rw [show Txt.startswith z (Str.ofString "/") = decide ((tl z).head? = some 47) from starts_slash z]
    refine ite_d (fun h2 => ?_) (fun h2 => ?_)
    rotate_left
    · rw [show false = isP (tl z) by unfold isP; rw [decide_eq_false h1, decide_eq_false h2]; rfl]
      exact q _ id
    walk_at "go"
    refine ite_d (fun h3 => ?_) (fun h3 => ?_)
    rotate_left
    · rw [show false = isP (tl z) by unfold isP; rw [decide_eq_false h1, decide_eq_false (p := (tl z).length ≤ 256) (by omega), Bool.and_false]; rfl]
      exact q _ id
    walk_at "go"
    refine ⟨_, rfl, Nat.le_trans (cutS_length z _ _) hz, fun H1 s1 => ?_⟩
    rw [cut_one, show hasN ((tl z).drop 1) = isP (tl z) by unfold isP; rw [decide_eq_false h1, decide_eq_true h2, decide_eq_true (p := (tl z).length ≤ 256) (by omega)]; rfl]
    exact q _ s1
def sp_is_target (K : PySem.W.Frag) : Sp := fun vs H Q _ => ∃ z, vs = [.str z] ∧ z.length ≤ 1000 ∧ ∀ H', Same H H' → Q (.bl (isT (tl z))) H'
set_option maxHeartbeats 0 in
theorem ok_is_target (T : Txt w K mg) : FnOk P w K mg base CX0 4 T.f_is_target T.d_is_target ["text"] (sp_is_target K) := by
  refine T.F_is_target.ok sc_is_target (fun vs H Q E h => ?_) (fun cdv A outer s H vs Q E hr h => ?_)
  · obtain ⟨_, rfl, _⟩ := h; rfl
  · obtain ⟨z, rfl, hz, q⟩ := h
    refine ⟨_, (pss_one (ps_ret (pe_or (pe_call (ok_is_path T) hr (by rfl) T.g_is_path T.F_is_path.kp T.b_is_path .nil pass0 (pa_cons (pv 0) pa_nil)) (pe_one (pe_and (pe_cmpR op_le (pe_callB kLenS (by rfl) T.m_len (by decide +kernel) (pa_cons (pv 0) pa_nil)) (pe_glob (v := .int 256) (by rfl) T.v_PATH_MOST ⟨_, rfl⟩) (nomark _)) (pe_one (pe_call (ok_has_names T) (hr.mono (by decide)) (by rfl) T.g_has_names T.F_has_names.kp T.b_has_names .nil pass0 (pa_cons (pv 0) pa_nil)))))))), ?_⟩
    have hz' := len_tl z
    walk_at "go"
    refine ⟨z, rfl, hz, fun H1 s1 => ?_⟩
    walk_at "go"
    by_cases h1 : isP (tl z) = true
    · refine ite_yes h1 ?_
      rw [show true = isT (tl z) by unfold isT; rw [h1]; rfl]
      exact q _ s1
    rw [Bool.not_eq_true] at h1
    refine ite_no h1 ?_
    walk_at "go"
    refine ite_d (fun h3 => ?_) (fun h3 => ?_)
    rotate_left
    · rw [show false = isT (tl z) by unfold isT; rw [h1, decide_eq_false (p := (tl z).length ≤ 256) (by omega)]; rfl]
      exact q _ s1
    walk_at "go"
    refine ⟨z, rfl, hz, fun H2 s2 => ?_⟩
    rw [show hasN (tl z) = isT (tl z) by unfold isT; rw [h1, decide_eq_true (p := (tl z).length ≤ 256) (by omega)]; rfl]
    exact q _ (fun a u z => s2 a u (s1 a u z))
/-- the names that names_of tells -/
def nmO (l : List Nat) : List (List Nat) := let m := if l.head? = some 47 then l.drop 1 else l; if m = [] then [] else spN m
def sp_names_of (K : PySem.W.Frag) : Sp := fun vs H Q _ => ∃ z, vs = [.str z] ∧ z.length ≤ 1000 ∧ ∀ H' p, Same H H' → H p = none → H' p = some (.lst ((nmO (tl z)).map (V.str ∘ ofL))) → Q (.ref p) H'
set_option maxHeartbeats 0 in
theorem ok_names_of (T : Txt w K mg) : FnOk P w K mg base CX0 1 T.f_names_of T.d_names_of ["path"] (sp_names_of K) := by
  refine T.F_names_of.ok sc_names_of (fun vs H Q E h => ?_) (fun cdv A outer s H vs Q E hr h => ?_)
  · obtain ⟨_, rfl, _⟩ := h; rfl
  · obtain ⟨z, rfl, hz, q⟩ := h
    refine ⟨_, (pss_cons (ps_if (pt_val (pe_bmK (K := K) PySem.F.plainAttrs_str PySem.F.slot_str_startswith PySem.F.type_str_startswith kStarts (pv 0) (pa_cons pe_str pa_nil)))
        (pss_one (ps_set (i := 0) sc_names_of.nd rfl (by first | exact Or.inl rfl | exact Or.inr rfl) (pe_slice sl_str (pv 0) (po_some pe_int) po_none)))
        pss_nil)
      (pss_cons (ps_if (pt_cmpR op_eq (pv 0) pe_str (nomark _))
        (pss_one (ps_ret (pe_lst pa_nil)))
        pss_nil)
      (pss_one (ps_ret (pe_bmK (K := K) PySem.F.plainAttrs_str PySem.F.slot_str_split PySem.F.type_str_split kSplit (pv 0) (pa_cons pe_str pa_nil)))))), ?_⟩
    have hz' := len_tl z
    have kk := Kn.nil (H := H)
    walk_at "go"
    rw [show Txt.startswith z (Str.ofString "/") = decide ((tl z).head? = some 47) from starts_slash z]
    refine ite_d (fun h => ?_) (fun h => ?_)
    · walk_at "go"
      rw [eq_empty, cut_one]
      have hc : (cutS z (some 1) none).length ≤ 1000000 := Nat.le_trans (cutS_length z _ _) (by omega)
      refine ite_d (fun h2 => ?_) (fun h2 => ?_)
      · walk_at "go"
        rename_i p1 H1 k1
        exact q _ _ k1.toSame (k1.nw_at 0 rfl) (by rw [k1.get 0 rfl]; unfold nmO; rw [if_pos h, if_pos h2]; rfl)
      · walk_at "go"
        rename_i p1 H1 k1
        exact q _ _ k1.toSame (k1.nw_at 0 rfl) (by rw [k1.get 0 rfl, show Txt.split (cutS z (some 1) none) (Str.ofString "/") = (spN (tl (cutS z (some 1) none))).map ofL from split_slash _, cut_one, List.map_map]; unfold nmO; rw [if_pos h, if_neg h2])
    · walk_at "go"
      rw [eq_empty]
      refine ite_d (fun h2 => ?_) (fun h2 => ?_)
      · walk_at "go"
        rename_i p1 H1 k1
        exact q _ _ k1.toSame (k1.nw_at 0 rfl) (by rw [k1.get 0 rfl]; unfold nmO; rw [if_neg h, if_pos h2]; rfl)
      · walk_at "go"
        rename_i p1 H1 k1
        exact q _ _ k1.toSame (k1.nw_at 0 rfl) (by rw [k1.get 0 rfl, show Txt.split z (Str.ofString "/") = (spN (tl z)).map ofL from split_slash _, List.map_map]; unfold nmO; rw [if_neg h, if_neg h2])
abbrev goodS2 : Str := "abcdefghijklmnopqrstuvwxyzABCDEFGHIJKLMNOPQRSTUVWXYZ0123456789_-."
theorem good_iff (c : Nat) : c ∈ tl goodS2 ↔ c ∈ tl goodS := by
  have h1 : ∀ c ∈ tl goodS2, c ∈ tl goodS := by decide +kernel
  have h2 : ∀ c ∈ tl goodS, c ∈ tl goodS2 := by decide +kernel
  exact ⟨h1 c, h2 c⟩
def sp_u_law_is_name (K : PySem.W.Frag) : Sp := fun vs H Q _ => ∃ z, vs = [.str z] ∧ z.length ≤ 1000 ∧ (∀ c ∈ tl z, c < 256) ∧ ∀ H', Same H H' → Q (.bl (isN (tl z))) H'
set_option maxHeartbeats 0 in
theorem ok_u_law_is_name (T : Txt w K mg) : FnOk P w K mg base CX0 1 T.f_u_law_is_name T.d_u_law_is_name ["text"] (sp_u_law_is_name K) := by
  refine T.F_u_law_is_name.ok sc_u_law_is_name (fun vs H Q E h => ?_) (fun cdv A outer s H vs Q E hr h => ?_)
  · obtain ⟨_, rfl, _⟩ := h; rfl
  · obtain ⟨z, rfl, hz, hza, q⟩ := h
    refine ⟨_, (pss_cons (ps_set (i := 1) sc_u_law_is_name.nd rfl (by first | exact Or.inl rfl | exact Or.inr rfl) pe_str)
      (pss_one (ps_ret (pe_and (pe_chain op_le op_le pe_int (pe_callB kLenS (by rfl) T.m_len (by decide +kernel) (pa_cons (pv 0) pa_nil)) pe_int) (pe_and (pe_cmpR (kEqD (K := K) hr.units) (pe_lcK (own := [("sign", 2)]) (vs := [2]) (g := gName 2) rfl (by rfl) sc_u_law_is_name.nd (pi_str (pv 0)) (blkOk_by (own := [("sign", 2)]) (N := N_u_law_is_name) (sc := defScope s_u_law_is_name) (by decide +kernel)) (fun _ _ _ _ _ => pg_name (i := 2) sc_u_law_is_name.nd rfl (by first | exact Or.inl rfl | exact Or.inr rfl) (by first | exact Or.inl rfl | exact Or.inr rfl)) (fun _ _ _ _ _ => pts_one (pt_cmpR kNinS (pv 2) (pv 1) (by rfl))) (fun _ _ _ _ _ => (pv 2))) (pe_lst pa_nil) (nomark _)) (pe_one (pe_cmpR (kNeD (K := K) hr.units) (pe_lcK (own := [("sign", 2)]) (vs := [2]) (g := gName 2) rfl (by rfl) sc_u_law_is_name.nd (pi_str (pv 0)) (blkOk_by (own := [("sign", 2)]) (N := N_u_law_is_name) (sc := defScope s_u_law_is_name) (by decide +kernel)) (fun _ _ _ _ _ => pg_name (i := 2) sc_u_law_is_name.nd rfl (by first | exact Or.inl rfl | exact Or.inr rfl) (by first | exact Or.inl rfl | exact Or.inr rfl)) (fun _ _ _ _ _ => pts_one (pt_cmpR op_ne (pv 2) pe_str (nomark _))) (fun _ _ _ _ _ => (pv 2))) (pe_lst pa_nil) (nomark _)))))))), ?_⟩
    have kk := Kn.nil (H := H)
    have hz' := len_tl z
    walk_at "go"
    refine ite_d (fun h1 => ?_) (fun h1 => ?_)
    rotate_left
    · walk_at "go"
      refine iteF ?_
      rw [show false = isN (tl z) by unfold isN; rw [decide_eq_false (by omega)]; rfl]
      exact q _ kk.toSame
    walk_at "go"
    refine ite_d (fun h2 => ?_) (fun h2 => ?_)
    rotate_left
    · rw [show false = isN (tl z) by unfold isN; rw [decide_eq_false (p := (tl z).length ≤ 32) (by omega), Bool.and_false]; rfl]
      exact q _ kk.toSame
    walk_at "go"
    have filt : ∀ f : Nat → Bool, ∀ y ∈ ((tl z).filter f).map (fun c => (⟨#[c]⟩ : Str)), PyData.strOk y = true := fun f y hy => by
      obtain ⟨c, hc, rfl⟩ := List.mem_map.mp hy
      exact strOk_of fun d hd => by
        have : d = c := by simpa [tl] using hd
        rw [this]; exact hza c (List.mem_filter.mp hc).1
    refine n_lcS (by omega) kk (fun i acc => acc = ((((tl z).take i).filter (fun c => !decide (c ∈ tl goodS2))).map (fun c => (⟨#[c]⟩ : Str))).map V.str) rfl (fun i c acc D H2 hc ra ka Q' q' => ?_)
      (fun i acc e => by rw [e, List.length_map, List.length_map]; exact Nat.le_trans (List.length_filter_le _ _) (by rw [List.length_take]; exact Nat.min_le_left _ _)) (fun acc p1 H1 ra k1 => ?_)
    · walk_at "go"
      refine q' _ _ ka (fun w => ?_) (fun w Q'' q'' => ?_)
      · rw [ra, filt_f hc w]
      · walk_at "go"
        refine q'' _ _ ?_ ka
        rw [ra, filt_t hc w, List.map_append, List.map_append]; rfl
    subst ra
    rw [List.take_of_length_le (Nat.le_refl _)] at k1
    clear kk
    walk_at "go"
    rename Kn _ _ _ _ => k2
    refine s_eqLS (zs := []) (kn_sq k2 1 rfl) (kn_sq k2 0 rfl) (filt _) (fun _ z => nomatch z) ?_
    have e1 : decide (((tl z).filter (fun c => !decide (c ∈ tl goodS2))).map (fun c => (⟨#[c]⟩ : Str)) = []) = (tl z).all (fun c => decide (c ∈ tl goodS)) := by
      have : (((tl z).filter (fun c => !decide (c ∈ tl goodS2))).map (fun c => (⟨#[c]⟩ : Str)) = []) ↔ ∀ c ∈ tl z, c ∈ tl goodS := by
        rw [List.map_eq_nil_iff, List.filter_eq_nil_iff]
        constructor
        · intro h c hc
          have := h c hc
          rw [← good_iff]
          simpa using this
        · intro h c hc
          have := h c hc
          rw [← good_iff] at this
          simpa using this
      cases w : (tl z).all (fun c => decide (c ∈ tl goodS)) with
      | true => exact decide_eq_true (this.mpr fun c hc => of_decide_eq_true (List.all_eq_true.mp w c hc))
      | false =>
        refine decide_eq_false fun h => ?_
        rw [List.all_eq_true.mpr fun c hc => decide_eq_true (this.mp h c hc)] at w; cases w
    rw [e1]
    walk_at "go"
    by_cases h3 : (tl z).all (fun c => decide (c ∈ tl goodS)) = true
    rotate_left
    · rw [Bool.not_eq_true] at h3
      refine ite_no h3 ?_
      rw [show false = isN (tl z) by unfold isN; rw [h3, Bool.and_false]; rfl]
      exact q _ k2.toSame
    refine ite_yes h3 ?_
    walk_at "go"
    refine n_lcS (by omega) k2 (fun i acc => acc = ((((tl z).take i).filter (fun c => !decide (c = 46))).map (fun c => (⟨#[c]⟩ : Str))).map V.str) rfl (fun i c acc D H2 hc ra ka Q' q' => ?_)
      (fun i acc e => by rw [e, List.length_map, List.length_map]; exact Nat.le_trans (List.length_filter_le _ _) (by rw [List.length_take]; exact Nat.min_le_left _ _)) (fun acc p1 H1 ra k3 => ?_)
    · walk_at "go"
      have e : decide ((⟨#[c]⟩ : Str) = Str.ofString ".") = decide (c = 46) := by
        rw [show Str.ofString "." = ⟨#[46]⟩ by decide +kernel]
        simp
      rw [e]
      refine q' _ _ ka (fun w => ?_) (fun w Q'' q'' => ?_)
      · rw [ra, filt_f hc w]
      · walk_at "go"
        refine q'' _ _ ?_ ka
        rw [ra, filt_t hc w, List.map_append, List.map_append]; rfl
    subst ra
    rw [List.take_of_length_le (Nat.le_refl _)] at k3
    clear k2
    walk_at "go"
    rename Kn _ _ _ _ => k4
    refine s_neLS (zs := []) (kn_sq k4 1 rfl) (kn_sq k4 0 rfl) (filt _) (fun _ z => nomatch z) ?_
    have e2 : decide (((tl z).filter (fun c => !decide (c = 46))).map (fun c => (⟨#[c]⟩ : Str)) = []) = (tl z).all (fun c => decide (c = 46)) := by
      have : (((tl z).filter (fun c => !decide (c = 46))).map (fun c => (⟨#[c]⟩ : Str)) = []) ↔ ∀ c ∈ tl z, c = 46 := by
        rw [List.map_eq_nil_iff, List.filter_eq_nil_iff]
        constructor
        · intro h c hc
          have := h c hc
          simpa using this
        · intro h c hc
          have := h c hc
          simpa using this
      cases w : (tl z).all (fun c => decide (c = 46)) with
      | true => exact decide_eq_true (this.mpr fun c hc => of_decide_eq_true (List.all_eq_true.mp w c hc))
      | false =>
        refine decide_eq_false fun h => ?_
        rw [List.all_eq_true.mpr fun c hc => decide_eq_true (this.mp h c hc)] at w; cases w
    rw [e2, show (!(tl z).all (fun c => decide (c = 46))) = isN (tl z) by
      unfold isN; rw [h3, decide_eq_true (show 1 ≤ (tl z).length by omega), decide_eq_true (show (tl z).length ≤ 32 by omega)]; rfl]
    exact q _ k4.toSame
end

/-! ### the plain law of k10 -/
theorem spN_sub : ∀ (l p : List Nat), p ∈ spN l → ∀ c ∈ p, c ∈ l
  | [], p, h, c, hc => by rw [List.mem_singleton.mp h] at hc; exact hc
  | x :: r, p, h, c, hc => by
    have ih := spN_sub r
    unfold spN at h
    split at h
    · rcases List.mem_cons.mp h with rfl | h
      · cases hc
      · exact List.mem_cons_of_mem _ (ih p h c hc)
    · split at h
      · rename_i q ps e
        rcases List.mem_cons.mp h with rfl | h
        · rcases List.mem_cons.mp hc with rfl | hc
          · simp
          · exact List.mem_cons_of_mem _ (ih q (by rw [e]; simp) c hc)
        · exact List.mem_cons_of_mem _ (ih p (by rw [e]; simp [h]) c hc)
      · rename_i e
        exact absurd e (spN_ne r)
theorem hasN_bad {l : List Nat} {p : List Nat} (h : p ∈ spN l) (hp : isN p = false) : hasN l = false := by
  unfold hasN
  cases w : (spN l).all isN with
  | false => rw [Bool.and_false]
  | true =>
    have := List.all_eq_true.mp w p h
    rw [hp] at this; cases this
theorem isN_nil : isN [] = false := rfl
theorem isN_dots1 : isN [46] = false := by decide +kernel
theorem isN_dots2 : isN [46, 46] = false := by decide +kernel
theorem isN_odd {p : List Nat} (h : 32 ∈ p) : isN p = false := by
  unfold isN
  cases w : p.all (fun c => decide (c ∈ tl goodS)) with
  | false => rw [Bool.and_false]; rfl
  | true =>
    have := of_decide_eq_true (List.all_eq_true.mp w 32 h)
    exact absurd this (by decide +kernel)
theorem hasN_slash0 (l : List Nat) : hasN (47 :: l) = false := hasN_bad (p := []) (by rw [show 47 :: l = [] ++ 47 :: l from rfl, spN_app]; simp [spN]) isN_nil
theorem hasN_end (l : List Nat) : hasN (l ++ [47]) = false := hasN_bad (p := []) (by rw [show l ++ [47] = l ++ 47 :: [] from rfl, spN_app]; simp [spN]) isN_nil
theorem hasN_odd {l : List Nat} (h : 32 ∈ l) : hasN l = false := by
  obtain ⟨p, hp, hc⟩ := spN_mem l 32 h (by decide)
  exact hasN_bad hp (isN_odd hc)
theorem isP_bad {l : List Nat} (h1 : l ≠ [47]) (h2 : l.head? = some 47 → hasN (l.drop 1) = false) : isP l = false := by
  unfold isP
  rw [decide_eq_false h1, Bool.false_or]
  by_cases h : l.head? = some 47
  · rw [h2 h, Bool.and_false]
  · rw [decide_eq_false h]; rfl
theorem isT_bad {l : List Nat} (h1 : isP l = false) (h2 : hasN l = false) : isT l = false := by
  unfold isT
  rw [h1, h2, Bool.and_false]; rfl
theorem nmO_hd (l : List Nat) (h : l.head? = some 47) : nmO l = if l.drop 1 = [] then [] else spN (l.drop 1) := by
  show (if (if l.head? = some 47 then l.drop 1 else l) = [] then [] else spN (if l.head? = some 47 then l.drop 1 else l)) = _
  rw [if_pos h]
theorem nmO_no (l : List Nat) (h : l.head? ≠ some 47) : nmO l = if l = [] then [] else spN l := by
  show (if (if l.head? = some 47 then l.drop 1 else l) = [] then [] else spN (if l.head? = some 47 then l.drop 1 else l)) = _
  rw [if_neg h]
structure RelOk (rel : List Nat) : Prop where
  ne : rel ≠ []
  hd : rel.head? ≠ some 47
  len : rel.length ≤ 600
  asc : ∀ c ∈ rel, c < 256
section
variable {rel : List Nat} (R : RelOk rel)
include R
theorem f_path : isP (47 :: rel) = (hasN rel && decide ((47 :: rel).length ≤ 256)) := by
  unfold isP
  rw [decide_eq_false (fun z => R.ne (by simpa using z)), Bool.false_or, show (47 :: rel).head? = some 47 from rfl, decide_eq_true rfl, Bool.true_and, Bool.and_comm]; rfl
theorem f_target : isT (47 :: rel) = (hasN rel && decide ((47 :: rel).length ≤ 256)) := by
  unfold isT
  rw [f_path R, hasN_slash0, Bool.and_false, Bool.or_false]
theorem f_prel : isP rel = false := isP_bad (fun z => R.hd (by rw [z]; rfl)) (fun z => absurd z R.hd)
theorem f_trel : isT rel = (hasN rel && decide (rel.length ≤ 256)) := by
  unfold isT
  rw [f_prel R, Bool.false_or, Bool.and_comm]
theorem f_nm : nmO (47 :: rel) = spN rel := by
  rw [nmO_hd _ rfl]
  exact if_neg R.ne
theorem f_nmr : nmO rel = spN rel := by
  rw [nmO_no _ R.hd]
  exact if_neg R.ne
theorem wrong1 : isP (47 :: rel ++ [47]) = false ∧ isT (47 :: rel ++ [47]) = false := by
  have h : isP (47 :: rel ++ [47]) = false := isP_bad (fun z => by simpa using z) (fun _ => hasN_end rel)
  exact ⟨h, isT_bad h (hasN_slash0 _)⟩
theorem wrong2 : isP (47 :: 47 :: rel) = false ∧ isT (47 :: 47 :: rel) = false := by
  have h : isP (47 :: 47 :: rel) = false := isP_bad (fun z => by simp at z) (fun _ => hasN_slash0 rel)
  exact ⟨h, isT_bad h (hasN_slash0 _)⟩
theorem wrong3 : isP (rel ++ [47]) = false ∧ isT (rel ++ [47]) = false := by
  have hh : (rel ++ [47]).head? ≠ some 47 := by
    rw [List.head?_append]
    cases e : rel.head? with
    | none => exact absurd (List.head?_eq_none_iff.mp e) R.ne
    | some c => intro z; exact R.hd (by rw [e]; simpa using z)
  have h : isP (rel ++ [47]) = false := isP_bad (fun z => hh (by rw [z]; rfl)) (fun z => absurd z hh)
  exact ⟨h, isT_bad h (hasN_end _)⟩
theorem wrong4 : isP (47 :: rel ++ [47, 47, 97]) = false ∧ isT (47 :: rel ++ [47, 47, 97]) = false := by
  have h2 : hasN (rel ++ [47, 47, 97]) = false := hasN_bad (p := []) (by
    rw [show rel ++ [47, 47, 97] = rel ++ 47 :: ([] ++ 47 :: [97]) from rfl, spN_app, spN_app]; simp [spN]) isN_nil
  have h : isP (47 :: rel ++ [47, 47, 97]) = false := isP_bad (fun z => by simpa using z) (fun _ => h2)
  exact ⟨h, isT_bad h (hasN_slash0 _)⟩
theorem wrong5 : isP (32 :: 47 :: rel) = false ∧ isT (32 :: 47 :: rel) = false := by
  have h : isP (32 :: 47 :: rel) = false := isP_bad (fun z => by simp at z) (fun z => by simp at z)
  exact ⟨h, isT_bad h (hasN_odd (by simp))⟩
theorem wrong6 : isP (47 :: rel ++ [32]) = false ∧ isT (47 :: rel ++ [32]) = false := by
  have h : isP (47 :: rel ++ [32]) = false := isP_bad (fun z => by simpa using z) (fun _ => hasN_odd (by simp))
  exact ⟨h, isT_bad h (hasN_slash0 _)⟩
theorem wrong7 : isP (47 :: rel ++ [47, 46]) = false ∧ isT (47 :: rel ++ [47, 46]) = false := by
  have h2 : hasN (rel ++ [47, 46]) = false := hasN_bad (p := [46]) (by
    rw [show rel ++ [47, 46] = rel ++ 47 :: [46] from rfl, spN_app]; simp [spN]) isN_dots1
  have h : isP (47 :: rel ++ [47, 46]) = false := isP_bad (fun z => by simpa using z) (fun _ => h2)
  exact ⟨h, isT_bad h (hasN_slash0 _)⟩
theorem wrong8 : isP (47 :: 46 :: 46 :: 47 :: rel) = false ∧ isT (47 :: 46 :: 46 :: 47 :: rel) = false := by
  have h2 : hasN (46 :: 46 :: 47 :: rel) = false := hasN_bad (p := [46, 46]) (by
    rw [show 46 :: 46 :: 47 :: rel = [46, 46] ++ 47 :: rel from rfl, spN_app]; simp [spN]) isN_dots2
  have h : isP (47 :: 46 :: 46 :: 47 :: rel) = false := isP_bad (fun z => by simp at z) (fun _ => h2)
  exact ⟨h, isT_bad h (hasN_slash0 _)⟩
theorem abc_ok : isN [97, 98, 99] = true := by decide +kernel
omit R in
theorem hasN_more {a b : List Nat} (h : (spN a).length + (spN b).length ≤ 16) (ha : (spN a).all isN = true) (hb : (spN b).all isN = true) : hasN (a ++ 47 :: b) = true := by
  unfold hasN
  rw [spN_app, List.length_append, List.all_append, ha, hb, decide_eq_true h]; rfl
theorem more1 (h : hasN rel = true) (h1 : (47 :: rel).length ≤ 250) (h2 : (spN rel).length < 16) : isP (47 :: rel ++ [47, 97, 98, 99]) = true ∧ nmO (47 :: rel ++ [47, 97, 98, 99]) = spN rel ++ [[97, 98, 99]] := by
  have ha : (spN rel).all isN = true := by
    unfold hasN at h
    exact (Bool.and_eq_true_iff.mp h).2
  have e : spN [97, 98, 99] = [[97, 98, 99]] := rfl
  have h3 : hasN (rel ++ [47, 97, 98, 99]) = true := hasN_more (b := [97, 98, 99]) (by rw [e]; show _ + 1 ≤ 16; omega) ha (by rw [e]; decide +kernel)
  constructor
  · have e0 : (47 :: rel ++ [47, 97, 98, 99]).head? = some 47 := rfl
    have e1 : List.drop 1 (47 :: rel ++ [47, 97, 98, 99]) = rel ++ [47, 97, 98, 99] := rfl
    have e2 : (47 :: rel ++ [47, 97, 98, 99]).length ≤ 256 := by
      rw [List.length_append]; simp only [List.length_cons, List.length_nil] at h1 ⊢; omega
    unfold isP
    rw [decide_eq_true e0, e1, h3, decide_eq_true e2]
    simp
  · rw [nmO_hd _ rfl]
    show (if rel ++ [47, 97, 98, 99] = [] then [] else spN (rel ++ 47 :: [97, 98, 99])) = _
    rw [if_neg (by simp), spN_app, e]
theorem more2 (h : hasN rel = true) (h1 : (47 :: rel).length ≤ 250) (h2 : (spN rel).length < 16) : isP (47 :: 97 :: 98 :: 99 :: 47 :: rel) = true := by
  have ha : (spN rel).all isN = true := by
    unfold hasN at h
    exact (Bool.and_eq_true_iff.mp h).2
  have e : spN [97, 98, 99] = [[97, 98, 99]] := rfl
  have h3 : hasN ([97, 98, 99] ++ 47 :: rel) = true := hasN_more (by rw [e]; show 1 + _ ≤ 16; omega) (by rw [e]; decide +kernel) ha
  unfold isP
  rw [decide_eq_true (show (47 :: 97 :: 98 :: 99 :: 47 :: rel).head? = some 47 from rfl), show (47 :: 97 :: 98 :: 99 :: 47 :: rel).drop 1 = [97, 98, 99] ++ 47 :: rel from rfl, h3, decide_eq_true (p := (47 :: 97 :: 98 :: 99 :: 47 :: rel).length ≤ 256) (by
    simp only [List.length_cons] at h1 ⊢; omega)]
  simp
end
def NmOk (z : Str) : Prop := z.length ≤ 33 ∧ tl z ≠ [] ∧ (tl z).head? ≠ some 47 ∧ ∀ c ∈ tl z, c < 256
theorem join_len : ∀ ys : List Str, (∀ y ∈ ys, NmOk y) → (joinL [47] (ys.map tl)).length ≤ ys.length * 34
  | [], _ => Nat.le_refl _
  | [y], h => by
    have := (h y (by simp)).1
    rw [len_tl] at this
    show (tl y).length ≤ 1 * 34
    omega
  | y :: z :: r, h => by
    have := (h y (by simp)).1
    rw [len_tl] at this
    have ih := join_len (z :: r) (fun w hw => h w (by simp [hw]))
    show (tl y ++ ([47] ++ joinL [47] ((z :: r).map tl))).length ≤ _
    rw [List.length_append, List.length_append]
    simp only [List.length_cons, List.length_nil] at ih ⊢
    omega
theorem join_asc : ∀ ys : List Str, (∀ y ∈ ys, NmOk y) → ∀ c ∈ joinL [47] (ys.map tl), c < 256
  | [], _, c, h => by cases h
  | [y], h, c, hc => (h y (by simp)).2.2.2 c hc
  | y :: z :: r, h, c, hc => by
    have hc : c ∈ tl y ++ ([47] ++ joinL [47] ((z :: r).map tl)) := hc
    rcases List.mem_append.mp hc with hc | hc
    · exact (h y (by simp)).2.2.2 c hc
    · rcases List.mem_append.mp hc with hc | hc
      · rw [List.mem_singleton.mp hc]; decide
      · exact join_asc (z :: r) (fun w hw => h w (by simp [hw])) c hc
theorem rel_ok {ys : List Str} (h : ∀ y ∈ ys, NmOk y) (hn : ys ≠ []) (hl : ys.length ≤ 17) : RelOk (joinL [47] (ys.map tl)) := by
  have hlen := join_len ys h
  have hasc := join_asc ys h
  match ys, h, hn, hl, hlen, hasc with
  | [y], h, _, _, hlen, hasc =>
    have hy := h y (by simp)
    exact ⟨hy.2.1, hy.2.2.1, by simp only [List.length_cons, List.length_nil] at hlen; omega, hasc⟩
  | y :: z :: r, h, _, hl, hlen, hasc =>
    have hy := h y (by simp)
    refine ⟨fun q => ?_, fun q => ?_, by omega, hasc⟩
    · have q : tl y ++ ([47] ++ joinL [47] ((z :: r).map tl)) = [] := q
      simp at q
    · have q : (tl y ++ ([47] ++ joinL [47] ((z :: r).map tl))).head? = some 47 := q
      rw [List.head?_append] at q
      cases e : (tl y).head? with
      | none => exact hy.2.1 (List.head?_eq_none_iff.mp e)
      | some c => rw [e] at q; exact hy.2.2.1 (by rw [e]; simpa using q)
theorem slashes : ∀ ys : List Str, ys ≠ [] → ((ys.map tl).map (fun l => 47 :: l)).flatten = 47 :: joinL [47] (ys.map tl)
  | [], h => absurd rfl h
  | [y], _ => by simp [joinL]
  | y :: z :: r, _ => by
    have ih := slashes (z :: r) (by simp)
    rw [List.map_cons, List.map_cons, List.flatten_cons, ih]
    show 47 :: tl y ++ 47 :: joinL [47] ((z :: r).map tl) = 47 :: (tl y ++ ([47] ++ joinL [47] ((z :: r).map tl)))
    simp
theorem joinE : ∀ ps : List (List Nat), joinL [] ps = ps.flatten
  | [] => rfl
  | [p] => by simp [joinL]
  | p :: q :: r => by
    show p ++ ([] ++ joinL [] (q :: r)) = _
    rw [joinE (q :: r)]; rfl
theorem tl_join0 (ys : List Str) : tl (Txt.join "" ys) = (ys.map tl).flatten := by
  rw [join_eq, tl_join, show tl (Str.ofString "") = [] by decide +kernel, joinE]
theorem tl_joinS (ys : List Str) : tl (Txt.join "/" ys) = joinL [47] (ys.map tl) := by
  rw [join_eq, tl_join, show tl (Str.ofString "/") = [47] from tl_slash]

section
variable {P : Program} {w : World} {K : PySem.W.Frag} {mg : Str → Option Value} {base : Heap}
abbrev signsS : Str := "abzABZ019_-.."
local macro_rules | `(tactic| walk_at "dr") => `(tactic| ((rename Kn _ _ _ _ => kk); (with_reducible refine' u_pickS kk ?gA ?gB ?_); (case gA => decide +kernel); (case gB => decide +kernel); clear kk; intro _ _ _ kk))
def sp_u_law_name (K : PySem.W.Frag) : Sp := fun vs H Q _ => ∃ d, vs = [.ref d] ∧ DkOk d H ∧ ∀ z H', Dx d H H' → NmOk z → Q (.str z) H'
set_option maxHeartbeats 0 in
theorem ok_u_law_name (T : Txt w K mg) : FnOk P w K mg base CX0 3 T.f_u_law_name T.d_u_law_name ["deck"] (sp_u_law_name K) := by
  refine T.F_u_law_name.ok sc_u_law_name (fun vs H Q E h => ?_) (fun cdv A outer s H vs Q E hr h => ?_)
  · obtain ⟨_, rfl, _⟩ := h; rfl
  · obtain ⟨d, rfl, hk, q⟩ := h
    refine ⟨_, (pss_cons (ps_set (i := 1) sc_u_law_name.nd rfl (by first | exact Or.inl rfl | exact Or.inr rfl) pe_str)
      (pss_cons (ps_set (i := 2) sc_u_law_name.nd rfl (by first | exact Or.inl rfl | exact Or.inr rfl) (pe_call (ok_u_law_pick T) hr (by rfl) T.g_u_law_pick T.F_u_law_pick.kp T.b_u_law_pick .nil pass0 (pa_cons (pv 0) (pa_cons (pe_lst (pa_cons pe_int (pa_cons pe_int (pa_cons pe_int (pa_cons pe_int (pa_cons pe_int (pa_cons pe_int (pa_cons (pe_op op_add pe_int (pe_call (ok_u_law_take T) (hr.mono (by decide)) (by rfl) T.g_u_law_take T.F_u_law_take.kp T.b_u_law_take .nil pass0 (pa_cons (pv 0) (pa_cons pe_int pa_nil)))) pa_nil)))))))) pa_nil))))
      (pss_one (ps_ret (pe_bmK (K := K) PySem.F.plainAttrs_str PySem.F.slot_str_join PySem.F.type_str_join (kJoin (K := K)) pe_str (pa_cons (pe_lcK (own := [("k", 3)]) (vs := [3]) (g := gName 3) (tt := tYes) rfl (by rfl) sc_u_law_name.nd (pi_range1 (by rfl) T.m_range (pa_cons (pv 2) pa_nil)) (blkOk_by (own := [("k", 3)]) (N := N_u_law_name) (sc := defScope s_u_law_name) (by decide +kernel)) (fun _ _ _ _ _ => pg_name (i := 3) sc_u_law_name.nd rfl (by first | exact Or.inl rfl | exact Or.inr rfl) (by first | exact Or.inl rfl | exact Or.inr rfl)) (fun _ _ _ _ _ => pts_nil) (fun _ _ _ _ _ => (pe_call (ok_u_law_pick T) hr (by rfl) T.g_u_law_pick T.F_u_law_pick.kp T.b_u_law_pick .nil pass0 (pa_cons (pv 0) (pa_cons (pv 1) pa_nil))))) pa_nil)))))), ?_⟩
    have kk := Kn.deck hk
    walk_at "gd"
    rename_i n _ n0 n1 _ _ x H1 hx kk
    obtain ⟨m, rfl, m1, m2⟩ : ∃ m : Nat, x = .int m ∧ 1 ≤ m ∧ m ≤ 33 := by
      simp only [List.mem_cons, List.not_mem_nil, or_false] at hx
      rcases hx with rfl | rfl | rfl | rfl | rfl | rfl | rfl
      · exact ⟨1, rfl, by decide, by decide⟩
      · exact ⟨2, rfl, by decide, by decide⟩
      · exact ⟨5, rfl, by decide, by decide⟩
      · exact ⟨31, rfl, by decide, by decide⟩
      · exact ⟨32, rfl, by decide, by decide⟩
      · exact ⟨33, rfl, by decide, by decide⟩
      · exact ⟨(1 + n).toNat, by rw [Int.toNat_of_nonneg (by omega)], by omega, by omega⟩
    walk_at "gd"
    refine n_lcR (by omega) (by omega) kk (fun i acc => ∃ cs : List Nat, acc = (cs.map (fun c => (⟨#[c]⟩ : Str))).map V.str ∧ cs.length = i ∧ ∀ c ∈ cs, c ∈ tl signsS) ⟨[], rfl, rfl, (fun _ z => nomatch z)⟩ (fun i acc D H2 hi ra ka Q' q' => ?_)
      (fun i acc ⟨cs, e, l, _⟩ => by rw [e, List.length_map, List.length_map, l]; exact Nat.le_refl _) (fun acc p2 H2 ra ka => ?_)
    · obtain ⟨cs, rfl, hl, hc⟩ := ra
      walk_at "gd"
      rename_i c H3 hc3 kk
      refine q' _ _ ⟨cs ++ [c], by rw [List.map_append, List.map_append]; rfl, by rw [List.length_append, hl]; rfl, fun y hy => ?_⟩ kk
      rcases List.mem_append.mp hy with hy | hy
      · exact hc y hy
      · rw [List.mem_singleton.mp hy]; exact hc3
    obtain ⟨cs, rfl, hl, hc⟩ := ra
    rw [Int.toNat_natCast] at hl
    have hsum : ((cs.map (fun c => (⟨#[c]⟩ : Str))).map (·.length)).sum = cs.length := by
      clear hl hc ka
      induction cs with
      | nil => rfl
      | cons c cs ih =>
        rw [List.map_cons, List.map_cons, List.sum_cons, ih]
        show 1 + cs.length = _
        rw [List.length_cons]; omega
    have htl : tl (Txt.join "" (cs.map (fun c => (⟨#[c]⟩ : Str)))) = cs := by
      rw [tl_join0, List.map_map]
      clear hl hc ka hsum
      induction cs with
      | nil => rfl
      | cons c cs ih =>
        rw [List.map_cons, List.flatten_cons, ih]; rfl
    have sg : ∀ c ∈ tl signsS, c ≠ 47 ∧ c < 256 := by decide +kernel
    clear kk
    walk_at "gd"
    refine s_join (kn_sq ka 0 rfl) (by rw [hsum, List.length_map, show (Str.ofString "").length = 0 by decide +kernel]; omega) ?_
    refine q _ _ ?_ ⟨by rw [len_tl, htl]; omega, by rw [htl]; intro z; rw [z] at hl; simp at hl; omega, ?_, ?_⟩
    · exact ka.toDx
    · rw [htl]
      cases cs with
      | nil => simp
      | cons c cs => intro z; exact (sg c (hc c (by simp))).1 (by simpa using z)
    · rw [htl]
      exact fun c hcc => (sg c (hc c hcc)).2
local macro_rules | `(tactic| walk_at "nz") => `(tactic| (refine s_sig (σ' := [_, _, _, _, _, _, _, _, _, _, _]) rfl ?_))
theorem s_seqJ {σ : L2.St} {H : Hp} {t u : TS} {D : Ends} (R : Hp → Prop) (h : ∀ N : L2.St → Hp → Prop, (∀ H', R H' → N σ H') → t { D with nx := N } σ H) (q : ∀ H', R H' → u D σ H') : tSeq t u D σ H := h _ q
def sp_law (K : PySem.W.Frag) : Sp := fun vs H Q _ => ∃ (a : Addr) (ns : List Int), vs = [.ref a] ∧ SqL K H a (ns.map V.int) ∧ ns.length ≤ 63 ∧ ∀ H', Q (.bl true) H'
set_option maxHeartbeats 0 in
theorem ok_law (T : Txt w K mg) : FnOk P w K mg base CX0 11 T.f_law T.d_law ["script"] (sp_law K) := by
  refine T.F_law.ok sc_law (fun vs H Q E h => ?_) (fun cdv A outer s H vs Q E hr h => ?_)
  · obtain ⟨_, _, rfl, _⟩ := h; rfl
  · obtain ⟨a, scr, rfl, hS, hns, q⟩ := h
    refine ⟨_, (pss_cons (ps_set (i := 1) sc_law.nd rfl (by first | exact Or.inl rfl | exact Or.inr rfl) (pe_call (ok_u_law_deck T) (hr.mono (by decide)) (by rfl) T.g_u_law_deck T.F_u_law_deck.kp T.b_u_law_deck .nil pass0 (pa_cons (pv 0) (pa_cons pe_int (pa_cons pe_int pa_nil)))))
      (pss_cons (ps_for PassesOwn.never rfl (pi_range1 (by rfl) T.m_range (pa_cons pe_int pa_nil)) (pg_name (i := 2) sc_law.nd rfl (by first | exact Or.inl rfl | exact Or.inr rfl))
        (pss_cons (ps_setLcK (i := 3) (own := [("k", 4)]) (vs := [4]) (g := gName 4) (tt := tYes) rfl (by rfl) sc_law.nd rfl rfl (sw_true rfl rfl rfl (by decide +kernel)) (pi_range1 (by rfl) T.m_range (pa_cons (pe_call (ok_u_law_pick T) (hr.mono (by decide)) (by rfl) T.g_u_law_pick T.F_u_law_pick.kp T.b_u_law_pick .nil pass0 (pa_cons (pv 1) (pa_cons (pe_lst (pa_cons pe_int (pa_cons pe_int (pa_cons pe_int (pa_cons pe_int (pa_cons pe_int (pa_cons pe_int pa_nil))))))) pa_nil))) pa_nil)) (blkOk_by (own := [("k", 4)]) (N := N_law) (sc := defScope s_law) (by decide +kernel)) (fun _ _ _ _ _ => pg_name (i := 4) sc_law.nd rfl (by first | exact Or.inl rfl | exact Or.inr rfl) (by first | exact Or.inl rfl | exact Or.inr rfl)) (fun _ _ _ _ _ => pts_nil) (fun _ _ _ _ _ => (pe_call (ok_u_law_name T) (hr.mono (by decide)) (by rfl) T.g_u_law_name T.F_u_law_name.kp T.b_u_law_name .nil pass0 (pa_cons (pv 1) pa_nil))))
        (pss_cons (ps_if (pt_cmpR op_eq (pe_call (ok_u_law_take T) (hr.mono (by decide)) (by rfl) T.g_u_law_take T.F_u_law_take.kp T.b_u_law_take .nil pass0 (pa_cons (pv 1) (pa_cons pe_int pa_nil))) pe_int (nomark _))
          (pss_one (ps_asg (pe_call (ok_u_law_pick T) (hr.mono (by decide)) (by rfl) T.g_u_law_pick T.F_u_law_pick.kp T.b_u_law_pick .nil pass0 (pa_cons (pv 1) (pa_cons (pe_lst (pa_cons pe_str (pa_cons pe_str (pa_cons pe_str (pa_cons pe_str (pa_cons pe_str (pa_cons pe_str (pa_cons (pe_op kRepS pe_str pe_int) (pa_cons pe_str pa_nil))))))))) pa_nil))) (pg_sub (pv 3) (pe_call (ok_u_law_take T) (hr.mono (by decide)) (by rfl) T.g_u_law_take T.F_u_law_take.kp T.b_u_law_take .nil pass0 (pa_cons (pv 1) (pa_cons (pe_callB (kLen (K := K)) (by rfl) T.m_len (by decide +kernel) (pa_cons (pv 3) pa_nil)) pa_nil))) set_list)))
          pss_nil)
        (pss_cons (ps_for PassesOwn.never rfl (pi_listK (K := K) (pv 3)) (pg_name (i := 5) sc_law.nd rfl (by first | exact Or.inl rfl | exact Or.inr rfl))
          (pss_one (ps_if (pt_cmpR op_ne (pe_call (ok_is_name T) (hr.mono (by decide)) (by rfl) T.g_is_name T.F_is_name.kp T.b_is_name .nil pass0 (pa_cons (pv 5) pa_nil)) (pe_call (ok_u_law_is_name T) (hr.mono (by decide)) (by rfl) T.g_u_law_is_name T.F_u_law_is_name.kp T.b_u_law_is_name .nil pass0 (pa_cons (pv 5) pa_nil)) (nomark _))
            (pss_one (ps_ret pe_bl))
            pss_nil)))
        (pss_cons (ps_par (i := 6) (j := 7) rfl sc_law.nd rfl rfl (by decide) rfl rfl (pa_cons (pe_bmK (K := K) PySem.F.plainAttrs_str PySem.F.slot_str_join PySem.F.type_str_join (kJoin (K := K)) pe_str (pa_cons (pe_lcK (own := [("name", 5)]) (vs := [5]) (g := gName 5) (tt := tYes) rfl (by rfl) sc_law.nd (pi_listK (K := K) (pv 3)) (blkOk_by (own := [("name", 5)]) (N := N_law) (sc := defScope s_law) (by decide +kernel)) (fun _ _ _ _ _ => pg_name (i := 5) sc_law.nd rfl (by first | exact Or.inl rfl | exact Or.inr rfl) (by first | exact Or.inl rfl | exact Or.inr rfl)) (fun _ _ _ _ _ => pts_nil) (fun _ _ _ _ _ => (pe_op kAddS pe_str (pv 5)))) pa_nil)) (pa_cons (pe_bmK (K := K) PySem.F.plainAttrs_str PySem.F.slot_str_join PySem.F.type_str_join (kJoin (K := K)) pe_str (pa_cons (pv 3) pa_nil)) pa_nil)) (by rfl))
        (pss_cons (ps_set (i := 8) sc_law.nd rfl (by first | exact Or.inl rfl | exact Or.inr rfl) (pe_slice (kSlL (K := K)) (pe_bmK (K := K) PySem.F.plainAttrs_str PySem.F.slot_str_split PySem.F.type_str_split kSplit (pv 6) (pa_cons pe_str pa_nil)) (po_some pe_int) po_none))
        (pss_cons (ps_set (i := 9) sc_law.nd rfl (by first | exact Or.inl rfl | exact Or.inr rfl) (pe_and (pe_cmpR (kNotIn (K := K)) pe_bl (pe_lcK (own := [("name", 5)]) (vs := [5]) (g := gName 5) (tt := tYes) rfl (by rfl) sc_law.nd (pi_listK (K := K) (pv 8)) (blkOk_by (own := [("name", 5)]) (N := N_law) (sc := defScope s_law) (by decide +kernel)) (fun _ _ _ _ _ => pg_name (i := 5) sc_law.nd rfl (by first | exact Or.inl rfl | exact Or.inr rfl) (by first | exact Or.inl rfl | exact Or.inr rfl)) (fun _ _ _ _ _ => pts_nil) (fun _ _ _ _ _ => (pe_call (ok_u_law_is_name T) (hr.mono (by decide)) (by rfl) T.g_u_law_is_name T.F_u_law_is_name.kp T.b_u_law_is_name .nil pass0 (pa_cons (pv 5) pa_nil)))) (by rfl)) (pe_one (pe_cmpR op_le (pe_callB (kLen (K := K)) (by rfl) T.m_len (by decide +kernel) (pa_cons (pv 8) pa_nil)) pe_int (nomark _)))))
        (pss_cons (ps_if (pt_not (pt_val (pe_call (ok_u_law_same T) hr (by rfl) T.g_u_law_same T.F_u_law_same.kp T.b_u_law_same .nil pass0 (pa_cons (pe_lst (pa_cons (pe_call (ok_is_path T) (hr.mono (by decide)) (by rfl) T.g_is_path T.F_is_path.kp T.b_is_path .nil pass0 (pa_cons (pv 6) pa_nil)) (pa_cons (pe_call (ok_is_target T) (hr.mono (by decide)) (by rfl) T.g_is_target T.F_is_target.kp T.b_is_target .nil pass0 (pa_cons (pv 6) pa_nil)) pa_nil))) (pa_cons (pe_op op_rep (pe_lst (pa_cons (pe_and (pv 9) (pe_one (pe_cmpR op_le (pe_callB kLenS (by rfl) T.m_len (by decide +kernel) (pa_cons (pv 6) pa_nil)) pe_int (nomark _)))) pa_nil)) pe_int) pa_nil)))))
          (pss_one (ps_ret pe_bl))
          pss_nil)
        (pss_cons (ps_if (pt_not (pt_val (pe_call (ok_u_law_same T) hr (by rfl) T.g_u_law_same T.F_u_law_same.kp T.b_u_law_same .nil pass0 (pa_cons (pe_lst (pa_cons (pe_call (ok_is_path T) (hr.mono (by decide)) (by rfl) T.g_is_path T.F_is_path.kp T.b_is_path .nil pass0 (pa_cons (pv 7) pa_nil)) (pa_cons (pe_call (ok_is_target T) (hr.mono (by decide)) (by rfl) T.g_is_target T.F_is_target.kp T.b_is_target .nil pass0 (pa_cons (pv 7) pa_nil)) pa_nil))) (pa_cons (pe_lst (pa_cons pe_bl (pa_cons (pe_and (pv 9) (pe_one (pe_cmpR op_le (pe_callB kLenS (by rfl) T.m_len (by decide +kernel) (pa_cons (pv 7) pa_nil)) pe_int (nomark _)))) pa_nil))) pa_nil)))))
          (pss_one (ps_ret pe_bl))
          pss_nil)
        (pss_cons (ps_if (PW.pt (pw_and (pt_val (pv 9)) (pw_and1 (PW.pt (pw_or (pt_cmpR (kNeD (K := K) hr.units) (pe_call (ok_names_of T) (hr.mono (by decide)) (by rfl) T.g_names_of T.F_names_of.kp T.b_names_of .nil pass0 (pa_cons (pv 6) pa_nil)) (pv 8) (nomark _)) (pw_or1 (pt_cmpR (kNeD (K := K) hr.units) (pe_call (ok_names_of T) (hr.mono (by decide)) (by rfl) T.g_names_of T.F_names_of.kp T.b_names_of .nil pass0 (pa_cons (pv 7) pa_nil)) (pv 8) (nomark _))))))))
          (pss_one (ps_ret pe_bl))
          pss_nil)
        (pss_cons (ps_for PassesOwn.never rfl (pi_tupK (K := K) (pe_tup (pa_cons (pe_op kAddS (pv 6) pe_str) (pa_cons (pe_op kAddS pe_str (pv 6)) (pa_cons (pe_op kAddS (pv 7) pe_str) (pa_cons (pe_op kAddS (pv 6) pe_str) (pa_cons (pe_op kAddS pe_str (pv 6)) (pa_cons (pe_op kAddS (pv 6) pe_str) (pa_cons (pe_op kAddS (pe_op kAddS pe_str (pv 7)) pe_str) (pa_cons (pe_op kAddS pe_str (pv 7)) pa_nil)))))))))) (pg_name (i := 10) sc_law.nd rfl (by first | exact Or.inl rfl | exact Or.inr rfl))
          (pss_one (ps_if (PW.pt (pw_or (pt_val (pe_call (ok_is_path T) (hr.mono (by decide)) (by rfl) T.g_is_path T.F_is_path.kp T.b_is_path .nil pass0 (pa_cons (pv 10) pa_nil))) (pw_or1 (pt_val (pe_call (ok_is_target T) (hr.mono (by decide)) (by rfl) T.g_is_target T.F_is_target.kp T.b_is_target .nil pass0 (pa_cons (pv 10) pa_nil))))))
            (pss_one (ps_ret pe_bl))
            pss_nil)))
        (pss_one (ps_if (PW.pt (pw_and (pt_val (pv 9)) (pw_and (pt_cmpR op_le (pe_callB kLenS (by rfl) T.m_len (by decide +kernel) (pa_cons (pv 6) pa_nil)) pe_int (nomark _)) (pw_and (pt_cmpR op_lt (pe_callB (kLen (K := K)) (by rfl) T.m_len (by decide +kernel) (pa_cons (pv 8) pa_nil)) pe_int (nomark _)) (pw_and1 (PW.pt (pw_or (pt_not (pt_val (pe_call (ok_is_path T) (hr.mono (by decide)) (by rfl) T.g_is_path T.F_is_path.kp T.b_is_path .nil pass0 (pa_cons (pe_op kAddS (pv 6) pe_str) pa_nil)))) (pw_or (pt_cmpR (kNeD (K := K) hr.units) (pe_call (ok_names_of T) (hr.mono (by decide)) (by rfl) T.g_names_of T.F_names_of.kp T.b_names_of .nil pass0 (pa_cons (pe_op kAddS (pv 6) pe_str) pa_nil)) (pe_op op_cat (pv 8) (pe_lst (pa_cons pe_str pa_nil))) (nomark _)) (pw_or1 (pt_not (pt_val (pe_call (ok_is_path T) (hr.mono (by decide)) (by rfl) T.g_is_path T.F_is_path.kp T.b_is_path .nil pass0 (pa_cons (pe_op kAddS pe_str (pv 6)) pa_nil)))))))))))))
          (pss_one (ps_ret pe_bl))
          pss_nil)))))))))))))
      (pss_cons (ps_if (pt_not (pt_val (pe_call (ok_u_law_same T) hr (by rfl) T.g_u_law_same T.F_u_law_same.kp T.b_u_law_same .nil pass0 (pa_cons (pe_lst (pa_cons (pe_call (ok_is_path T) (hr.mono (by decide)) (by rfl) T.g_is_path T.F_is_path.kp T.b_is_path .nil pass0 (pa_cons pe_str pa_nil)) (pa_cons (pe_call (ok_is_target T) (hr.mono (by decide)) (by rfl) T.g_is_target T.F_is_target.kp T.b_is_target .nil pass0 (pa_cons pe_str pa_nil)) (pa_cons (pe_call (ok_is_path T) (hr.mono (by decide)) (by rfl) T.g_is_path T.F_is_path.kp T.b_is_path .nil pass0 (pa_cons pe_str pa_nil)) (pa_cons (pe_call (ok_is_target T) (hr.mono (by decide)) (by rfl) T.g_is_target T.F_is_target.kp T.b_is_target .nil pass0 (pa_cons pe_str pa_nil)) (pa_cons (pe_call (ok_names_of T) (hr.mono (by decide)) (by rfl) T.g_names_of T.F_names_of.kp T.b_names_of .nil pass0 (pa_cons pe_str pa_nil)) pa_nil)))))) (pa_cons (pe_lst (pa_cons pe_bl (pa_cons pe_bl (pa_cons pe_bl (pa_cons pe_bl (pa_cons (pe_lst pa_nil) pa_nil)))))) pa_nil)))))
        (pss_one (ps_ret pe_bl))
        pss_nil)
      (pss_one (ps_ret (pe_call (ok_u_law_same T) hr (by rfl) T.g_u_law_same T.F_u_law_same.kp T.b_u_law_same .nil pass0 (pa_cons (pe_lst (pa_cons (pe_call (ok_is_path T) (hr.mono (by decide)) (by rfl) T.g_is_path T.F_is_path.kp T.b_is_path .nil pass0 (pa_cons (pe_op kAddS pe_str (pe_op kRepS pe_str pe_int)) pa_nil)) (pa_cons (pe_call (ok_is_path T) (hr.mono (by decide)) (by rfl) T.g_is_path T.F_is_path.kp T.b_is_path .nil pass0 (pa_cons (pe_op kAddS pe_str (pe_op kRepS pe_str pe_int)) pa_nil)) (pa_cons (pe_call (ok_is_target T) (hr.mono (by decide)) (by rfl) T.g_is_target T.F_is_target.kp T.b_is_target .nil pass0 (pa_cons (pe_op kRepS pe_str pe_int) pa_nil)) pa_nil)))) (pa_cons (pe_lst (pa_cons pe_bl (pa_cons pe_bl (pa_cons pe_bl pa_nil)))) pa_nil)))))))), ?_⟩
    walk_at "gd"
    refine ⟨a, scr, 200, 14, rfl, hS, hns, by decide, by decide, fun H1 d sm hn hk => ?_⟩
    have kk := Kn.deck hk
    walk_at "gd"
    refine n_for (by decide) (by decide) (fun i σ H' => ∃ (y2 y3 y4 y5 y6 y7 y8 y9 y10 : Option V), σ = [some (.ref a), some (.ref d), y2, y3, y4, y5, y6, y7, y8, y9, y10] ∧ Kn (some d) H1 [] H')
      ⟨_, _, _, _, _, _, _, _, _, rfl, kk⟩ (fun i σ H' hi hp => ?_) (fun σ H' hp => ?_)
    · obtain ⟨y2, y3, y4, y5, y6, y7, y8, y9, y10, rfl, kk⟩ := hp
      walk_at "gd"
      rename_i _ _ x H2 hx kk
      obtain ⟨m, rfl, m1, m2⟩ : ∃ m : Nat, x = .int m ∧ 1 ≤ m ∧ m ≤ 17 := by
        simp only [List.mem_cons, List.not_mem_nil, or_false] at hx
        rcases hx with rfl | rfl | rfl | rfl | rfl | rfl
        · exact ⟨1, rfl, by decide, by decide⟩
        · exact ⟨2, rfl, by decide, by decide⟩
        · exact ⟨3, rfl, by decide, by decide⟩
        · exact ⟨15, rfl, by decide, by decide⟩
        · exact ⟨16, rfl, by decide, by decide⟩
        · exact ⟨17, rfl, by decide, by decide⟩
      refine n_lcR (by omega) (by omega) kk.none_ (fun i acc => ∃ ys : List Str, acc = ys.map V.str ∧ ys.length = i ∧ ∀ y ∈ ys, NmOk y) ⟨[], rfl, rfl, (fun _ z => nomatch z)⟩ (fun i acc D H2 hi ra ka Q' q' => ?_)
        (fun i acc ⟨cs, e, l, _⟩ => by rw [e, List.length_map, l]; exact Nat.le_refl _) (fun acc np H3 ra k3 => ?_)
      · obtain ⟨ys, rfl, hl, hy⟩ := ra
        walk_at "gd"
        refine ⟨d, rfl, ka.dk', fun z H4 x4 hz => q' _ _ ⟨ys ++ [z], by rw [List.map_append]; rfl, by rw [List.length_append, hl]; rfl, fun y hy' => ?_⟩ (ka.dx x4)⟩
        rcases List.mem_append.mp hy' with hy' | hy'
        · exact hy y hy'
        · rw [List.mem_singleton.mp hy']; exact hz
      obtain ⟨ys, rfl, hl, hy⟩ := ra
      rw [Int.toNat_natCast] at hl
      clear kk
      refine s_name ?_
      walk_at "st"
      refine s_J (fun H4 => ∃ ys : List Str, Kn (some d) H1 [(np, .lst (ys.map V.str))] H4 ∧ 1 ≤ ys.length ∧ ys.length ≤ 17 ∧ ∀ y ∈ ys, NmOk y) (fun N hN => ?_) (fun H4 h4 => ?_)
      · walk_at "gd"
        refine ite_d (fun h => ?_) (fun h => ?_)
        rotate_left
        · walk_at "gd"
          rename Kn _ _ _ _ => k4
          exact hN _ ⟨ys, k4, by omega, by omega, hy⟩
        walk_at "gd"
        refine s_repS (by decide) (by decide) (by decide +kernel) ?_
        walk_at "gd"
        rename_i _ _ x H5 hx kk
        obtain ⟨z, rfl, hz⟩ : ∃ z, x = .str z ∧ NmOk z := by
          simp only [List.mem_cons, List.not_mem_nil, or_false] at hx
          rcases hx with rfl | rfl | rfl | rfl | rfl | rfl | rfl | rfl <;> exact ⟨_, rfl, by unfold NmOk; decide +kernel⟩
        rw [List.length_map]
        refine u_take kk (by omega) (fun j H6 j0 j1 k6 => ?_)
        clear hx kk
        obtain ⟨jn, rfl⟩ := Int.eq_ofNat_of_zero_le j0
        refine a_set k6 1 rfl (ixN_nat (by rw [List.length_map]; omega)) (fun H7 k7 => ?_)
        rw [show (ys.map V.str).set jn (V.str z) = (ys.set jn z).map V.str from List.map_set.symm] at k7
        refine hN _ ⟨ys.set jn z, k7.forget 1, by rw [List.length_set]; omega, by rw [List.length_set]; omega, fun y hy' => ?_⟩
        rcases List.mem_or_eq_of_mem_set hy' with w | w
        · exact hy y w
        · rw [w]; exact hz
      clear hl hy k3 ys
      obtain ⟨ys, k4, hl1, hl2, hy⟩ := h4
      have R := rel_ok hy (fun z => by rw [z] at hl1; simp at hl1) hl2
      have hslash := slashes ys (fun z => by rw [z] at hl1; simp at hl1)
      walk_at "gd"
      refine n_forL (kn_sq k4 0 rfl) (fun j σ H' => ∃ y5, σ = [some (.ref a), some (.ref d), some (.int i), some (.ref np), y4, y5, y6, y7, y8, y9, y10] ∧ Kn (some d) H1 [(np, .lst (ys.map V.str))] H')
        ⟨_, rfl, k4⟩ (fun j σ H' hj hp => by obtain ⟨_, _, k⟩ := hp; exact kn_sq k 0 rfl) (fun j x σ H' hx hp => ?_) (fun σ H' hp => ?_)
      · obtain ⟨_, rfl, kk⟩ := hp
        rw [List.getElem?_map] at hx
        cases e : ys[j]? with
        | none => rw [e] at hx; cases hx
        | some z =>
          rw [e] at hx
          have hx : V.str z = x := Option.some.inj hx
          subst hx
          have hz := hy z (List.mem_of_getElem? e)
          walk_at "gd"
          refine ⟨z, rfl, Nat.le_trans hz.1 (by decide), fun H5 s5 => ?_⟩
          walk_at "gd"
          refine ⟨z, rfl, Nat.le_trans hz.1 (by decide), hz.2.2.2, fun H6 s6 => ?_⟩
          walk_at "gd"
          refine ite_no (by simp) ?_
          walk_at "gd"
          exact ⟨_, rfl, (kk.same s5).same s6⟩
      obtain ⟨z5, rfl, k5⟩ := hp
      clear k4
      -- path, relative
      walk_at "gd"
      refine n_lcL (kn_sq k5 0 rfl) (by rw [List.length_map]; omega) k5 (fun D acc H2 k => kn_sq k 1 rfl) (fun i acc => acc = ((ys.take i).map (fun y => slash ++ y)).map V.str) rfl (fun i x acc D H2 hx ra ka Q' q' => ?_)
        (fun i acc e => by rw [e, List.length_map, List.length_map, List.length_take]; exact Nat.min_le_left _ _) (fun acc p6 H6 ra k6 => ?_)
      · rw [List.getElem?_map] at hx
        cases e : ys[i]? with
        | none => rw [e] at hx; cases hx
        | some z =>
          rw [e] at hx
          have hx : V.str z = x := Option.some.inj hx
          subst hx
          have hz := hy z (List.mem_of_getElem? e)
          refine q' _ _ ka (fun z => nomatch z) (fun _ Q'' q'' => ?_)
          walk_at "gd"
          refine s_addS (by have := hz.1; rw [show (Str.ofString "/").length = 1 by decide +kernel]; omega) ?_
          refine q'' _ _ ?_ ka
          rw [ra, List.take_add_one, e, List.map_append, List.map_append]; rfl
      subst ra
      rw [List.length_map, List.take_of_length_le (Nat.le_refl _)] at k6
      clear k5
      have sl1 : (Str.ofString "/").length = 1 := by decide +kernel
      have sumle : ∀ (l : List Str) (n : Nat), (∀ y ∈ l, y.length ≤ n) → (l.map (·.length)).sum ≤ l.length * n := fun l n => by
        induction l with
        | nil => intro _; exact Nat.zero_le _
        | cons y l ih =>
          intro h
          have h1 := h y (by simp)
          have h2 := ih (fun z hz => h z (by simp [hz]))
          rw [List.map_cons, List.sum_cons, List.length_cons, Nat.succ_mul]; omega
      walk_at "gd"
      refine s_join (kn_sq k6 0 rfl) (by
        have := sumle (ys.map (fun y => slash ++ y)) 34 (fun y hy' => by
          obtain ⟨z, hz, rfl⟩ := List.mem_map.mp hy'
          have := (hy z hz).1
          rw [len_tl, tl_append, List.length_append, tl_slash, ← len_tl]
          simp only [List.length_cons, List.length_nil]; omega)
        rw [List.length_map] at this ⊢
        rw [show (Str.ofString "").length = 0 by decide +kernel]; omega) ?_
      walk_at "gd"
      refine s_join (kn_sq k6 1 rfl) (by
        have := sumle ys 33 (fun y hy' => (hy y hy').1)
        rw [sl1]; omega) ?_
      have hP : tl (Txt.join (Str.ofString "") (ys.map (fun y => slash ++ y))) = 47 :: joinL [47] (ys.map tl) := by
        rw [tl_join0, ← hslash, List.map_map, List.map_map]
        congr 1
        refine List.map_congr_left fun y _ => ?_
        show tl (slash ++ y) = 47 :: tl y
        rw [tl_append, tl_slash]; rfl
      have hRl : tl (Txt.join (Str.ofString "/") ys) = joinL [47] (ys.map tl) := tl_joinS ys
      generalize Txt.join (Str.ofString "") (ys.map (fun y => slash ++ y)) = pth at hP ⊢
      generalize Txt.join (Str.ofString "/") ys = rlt at hRl ⊢
      generalize joinL [47] (ys.map tl) = rel at R hP hRl
      clear hslash
      have hpl : pth.length = rel.length + 1 := by rw [len_tl, hP]; rfl
      have hrl : rlt.length = rel.length := by rw [len_tl, hRl]
      have hR600 := R.len
      have kk : Kn (some d) H1 [] H6 := k6.none_
      clear k6
      -- parts
      refine s_nil ?_
      refine s_vw ?_
      walk_at "st"
      refine s_JS (fun σ' H' => ∃ p8, σ' = [some (.ref a), some (.ref d), some (.int i), some (.ref np), y4, z5, some (.str pth), some (.str rlt), some (.ref p8), y9, y10] ∧ Kn (some d) H1 [(p8, .lst ((spN rel).map (V.str ∘ ofL)))] H') (fun N hN => ?_) (fun σ' H8 h8 => ?_)
      · walk_at "gd"
        rename_i p7 H7 p8 H8 k8
        have hcut : cutV ((Txt.split pth (Str.ofString "/")).map V.str) (some 1) none = (spN rel).map (V.str ∘ ofL) := by
          rw [show Txt.split pth (Str.ofString "/") = (spN (tl pth)).map ofL from split_slash pth, hP, List.map_map, show spN (47 :: rel) = [] :: spN rel from rfl]
          exact (cutI _ 1 (by simp)).trans rfl
        rw [hcut] at k8
        exact hN _ _ ⟨p8, rfl, k8.sub (by walk_at "sub")⟩
      obtain ⟨p8, rfl, k8⟩ := h8
      clear kk
      walk_at "st"
      refine s_JS (fun σ' H' => σ' = [some (.ref a), some (.ref d), some (.int i), some (.ref np), y4, z5, some (.str pth), some (.str rlt), some (.ref p8), some (.bl (hasN rel)), y10] ∧ Kn (some d) H1 [(p8, .lst ((spN rel).map (V.str ∘ ofL)))] H') (fun N hN => ?_) (fun σ' H9 h9 => ?_)
      · walk_at "gd"
        refine n_lcL (kn_sq k8 0 rfl) (by rw [List.length_map]; exact Nat.le_trans (spN_count rel) (by omega)) k8 (fun D acc H2 k => kn_sq k 1 rfl) (fun i acc => acc = (((spN rel).take i).map isN).map V.bl) rfl (fun i x acc D H2 hx ra ka Q' q' => ?_)
          (fun i acc e => by rw [e, List.length_map, List.length_map, List.length_take]; exact Nat.min_le_left _ _) (fun acc p9 H9 ra k9 => ?_)
        · rw [List.getElem?_map] at hx
          cases e : (spN rel)[i]? with
          | none => rw [e] at hx; cases hx
          | some l =>
            rw [e] at hx
            have hx : V.str (ofL l) = x := Option.some.inj hx
            subst hx
            have hm := List.mem_of_getElem? e
            have hl := spN_len rel l hm
            refine q' _ _ ka (fun z => nomatch z) (fun _ Q'' q'' => ?_)
            walk_at "gd"
            refine ⟨ofL l, rfl, by rw [len_tl, tl_ofL]; omega, fun c hc => R.asc c (spN_sub rel l hm c hc), fun H3 s3 => q'' _ _ ?_ (ka.same s3)⟩
            rw [ra, List.take_add_one, e, List.map_append, List.map_append]; rfl
        subst ra
        rw [List.length_map, List.take_of_length_le (Nat.le_refl _)] at k9
        refine s_ninB (kn_sq k9 0 rfl) ?_
        rw [all_map]
        walk_at "gd"
        by_cases h3 : (spN rel).all isN = true
        · refine ite_yes h3 ?_
          walk_at "gd"
          refine hN _ _ ⟨?_, k9.forget 1⟩
          rw [List.length_map, show decide (((spN rel).length : Int) ≤ 16) = hasN rel by unfold hasN; rw [h3, Bool.and_true]; simp only [decide_eq_decide]; omega]
          rfl
        · rw [Bool.not_eq_true] at h3
          refine ite_no h3 ?_
          walk_at "gd"
          refine hN _ _ ⟨?_, k9.forget 1⟩
          rw [show false = hasN rel by unfold hasN; rw [h3, Bool.and_false]]
          rfl
      obtain ⟨rfl, k9⟩ := h9
      clear k8
      -- the first two questions
      have okb : ∀ b c : Bool, okd 8 (.list [.bool b, .bool c]) = true := fun b c => rfl
      have eD : decide (((tl pth).length : Int) ≤ 256) = decide ((47 :: rel).length ≤ 256) := by rw [hP]; simp only [decide_eq_decide]; omega
      have eR : decide (((tl rlt).length : Int) ≤ 256) = decide (rel.length ≤ 256) := by rw [hRl]; simp only [decide_eq_decide]; omega
      walk_at "st"
      refine s_ifF (Kn (some d) H1 [(p8, .lst ((spN rel).map (V.str ∘ ofL)))]) (fun QB qb => ?_) (fun H10 k10 => ?_)
      · walk_at "gd"
        refine ⟨pth, rfl, by omega, fun H2 s2 => ?_⟩
        have kk := k9.same s2
        walk_at "gd"
        refine ⟨pth, rfl, by omega, fun H3 s3 => ?_⟩
        have kk := kk.same s3
        walk_at "gd"
        rename_i q4 H4 k4
        rw [hP, f_path R, f_target R] at k4
        by_cases hg : hasN rel = true
        · refine ite_yes hg ?_
          walk_at "gd"
          rename_i q5 H5 k5
          rw [eD] at k5
          refine s_rep k5 (k5.get 0 rfl) (by decide) (by decide) (small_len rfl) (fun q6 H6 k6 => ?_)
          walk_at "gd"
          rw [hg] at k6
          refine ⟨_, _, .list [.bool _, .bool _], rfl, okb _ _, .lst (kn_sq k6 2 rfl) (.cons (.bl _) (.cons (.bl _) .nil)), .lst (kn_sq k6 0 rfl) (.cons (.bl _) (.cons (.bl _) .nil)), fun H7 s7 => ?_⟩
          walk_at "gd"
          exact qb _ ((k6.same s7).sub (by walk_at "sub"))
        · rw [Bool.not_eq_true] at hg
          refine ite_no hg ?_
          walk_at "gd"
          rename_i q5 H5 k5
          refine s_rep k5 (k5.get 0 rfl) (by decide) (by decide) (small_len rfl) (fun q6 H6 k6 => ?_)
          walk_at "gd"
          rw [hg] at k6
          refine ⟨_, _, .list [.bool _, .bool _], rfl, okb _ _, .lst (kn_sq k6 2 rfl) (.cons (.bl _) (.cons (.bl _) .nil)), .lst (kn_sq k6 0 rfl) (.cons (.bl _) (.cons (.bl _) .nil)), fun H7 s7 => ?_⟩
          walk_at "gd"
          exact qb _ ((k6.same s7).sub (by walk_at "sub"))
      clear k9
      walk_at "st"
      refine s_ifF (Kn (some d) H1 [(p8, .lst ((spN rel).map (V.str ∘ ofL)))]) (fun QB qb => ?_) (fun H11 k11 => ?_)
      · walk_at "gd"
        refine ⟨rlt, rfl, by omega, fun H2 s2 => ?_⟩
        have kk := k10.same s2
        walk_at "gd"
        refine ⟨rlt, rfl, by omega, fun H3 s3 => ?_⟩
        have kk := kk.same s3
        walk_at "gd"
        rename_i q4 H4 k4
        rw [hRl, f_prel R, f_trel R] at k4
        by_cases hg : hasN rel = true
        · refine ite_yes hg ?_
          walk_at "gd"
          rename_i q5 H5 k6
          rw [eR] at k6
          rw [hg] at k6
          refine ⟨_, _, .list [.bool _, .bool _], rfl, okb _ _, .lst (kn_sq k6 1 rfl) (.cons (.bl _) (.cons (.bl _) .nil)), .lst (kn_sq k6 0 rfl) (.cons (.bl _) (.cons (.bl _) .nil)), fun H7 s7 => ?_⟩
          walk_at "gd"
          exact qb _ ((k6.same s7).sub (by walk_at "sub"))
        · rw [Bool.not_eq_true] at hg
          refine ite_no hg ?_
          walk_at "gd"
          rename_i q5 H5 k6
          rw [hg] at k6
          refine ⟨_, _, .list [.bool _, .bool _], rfl, okb _ _, .lst (kn_sq k6 1 rfl) (.cons (.bl _) (.cons (.bl _) .nil)), .lst (kn_sq k6 0 rfl) (.cons (.bl _) (.cons (.bl _) .nil)), fun H7 s7 => ?_⟩
          walk_at "gd"
          exact qb _ ((k6.same s7).sub (by walk_at "sub"))
      clear k10
      -- the names told
      have oks : ∀ y ∈ (spN rel).map ofL, PyData.strOk y = true := fun y hy' => by
        obtain ⟨l, hl, rfl⟩ := List.mem_map.mp hy'
        exact strOk_of fun c hc => R.asc c (spN_sub rel l hl c hc)
      walk_at "st"
      refine s_ifF (Kn (some d) H1 [(p8, .lst ((spN rel).map (V.str ∘ ofL)))]) (fun QB qb => ?_) (fun H12 k12 => ?_)
      · walk_at "gd"
        by_cases hg : hasN rel = true
        rotate_left
        · rw [Bool.not_eq_true] at hg
          refine ite_no hg ?_
          exact qb _ k11
        refine ite_yes hg ?_
        walk_at "gd"
        refine ⟨pth, rfl, by omega, fun H2 q2 s2 h2 e2 => ?_⟩
        have k2 := k11.ret h2 s2 e2
        rw [hP, f_nm R, ← List.map_map] at k2
        walk_at "gd"
        refine s_neLS (kn_sq k2 0 rfl) (kn_sq k2 1 rfl) oks oks ?_
        walk_at "gd"
        refine ite_no (by simp) ?_
        walk_at "gd"
        refine ⟨rlt, rfl, by omega, fun H3 q3 s3 h3 e3 => ?_⟩
        have k3 := k2.ret h3 s3 e3
        rw [hRl, f_nmr R, ← List.map_map] at k3
        walk_at "gd"
        refine s_neLS (kn_sq k3 0 rfl) (kn_sq k3 2 rfl) oks oks ?_
        rw [show (!decide ((spN rel).map ofL = (spN rel).map ofL)) = false by simp]
        walk_at "gd"
        rw [List.map_map] at k3
        exact qb _ (k3.sub (by walk_at "sub"))
      clear k11
      -- wrong ones
      have sl2 : (Str.ofString "//a").length = 3 := by decide +kernel
      have sl3 : (Str.ofString " ").length = 1 := by decide +kernel
      have sl4 : (Str.ofString "/.").length = 2 := by decide +kernel
      have sl5 : (Str.ofString "/../").length = 4 := by decide +kernel
      have sl6 : (Str.ofString "/abc").length = 4 := by decide +kernel
      have tl2 : tl (Str.ofString "//a") = [47, 47, 97] := by decide +kernel
      have tl3 : tl (Str.ofString " ") = [32] := by decide +kernel
      have tl4 : tl (Str.ofString "/.") = [47, 46] := by decide +kernel
      have tl5 : tl (Str.ofString "/../") = [47, 46, 46, 47] := by decide +kernel
      have tl6 : tl (Str.ofString "/abc") = [47, 97, 98, 99] := by decide +kernel
      have tl1 : tl (Str.ofString "/") = [47] := tl_slash
      have hsr : (Str.ofString "/" ++ rlt).length = 1 + rlt.length := by rw [len_tl, tl_append, List.length_append, ← len_tl, ← len_tl, sl1]
      walk_at "gd"
      rename_i tp H13 k13
      refine n_forT (kn_tq k13 0 rfl) (fun j σ H' => ∃ y10, σ = [some (.ref a), some (.ref d), some (.int i), some (.ref np), y4, z5, some (.str pth), some (.str rlt), some (.ref p8), some (.bl (hasN rel)), y10] ∧ Kn (some d) H1 [(tp, .tup _), (p8, .lst ((spN rel).map (V.str ∘ ofL)))] H')
        ⟨_, rfl, k13⟩ (fun j σ H' hj hp => by obtain ⟨_, _, k⟩ := hp; exact kn_tq k 0 rfl) (fun j x σ H' hx hp => ?_) (fun σ H' hp => ?_)
      · obtain ⟨_, rfl, kk⟩ := hp
        obtain ⟨z, rfl, hz1, hz2, hz3⟩ : ∃ z, x = .str z ∧ z.length ≤ 1000 ∧ isP (tl z) = false ∧ isT (tl z) = false := by
          have hx := List.mem_of_getElem? hx
          simp only [List.mem_cons, List.not_mem_nil, or_false] at hx
          rcases hx with rfl | rfl | rfl | rfl | rfl | rfl | rfl | rfl
          · exact ⟨_, rfl, by rw [len_tl, tl_append, List.length_append, ← len_tl, ← len_tl]; omega, by rw [tl_append, hP, tl1]; exact wrong1 R⟩
          · exact ⟨_, rfl, by rw [len_tl, tl_append, List.length_append, ← len_tl, ← len_tl]; omega, by rw [tl_append, hP, tl1]; exact wrong2 R⟩
          · exact ⟨_, rfl, by rw [len_tl, tl_append, List.length_append, ← len_tl, ← len_tl]; omega, by rw [tl_append, hRl, tl1]; exact wrong3 R⟩
          · exact ⟨_, rfl, by rw [len_tl, tl_append, List.length_append, ← len_tl, ← len_tl]; omega, by rw [tl_append, hP, tl2]; exact wrong4 R⟩
          · exact ⟨_, rfl, by rw [len_tl, tl_append, List.length_append, ← len_tl, ← len_tl]; omega, by rw [tl_append, hP, tl3]; exact wrong5 R⟩
          · exact ⟨_, rfl, by rw [len_tl, tl_append, List.length_append, ← len_tl, ← len_tl]; omega, by rw [tl_append, hP, tl3]; exact wrong6 R⟩
          · exact ⟨_, rfl, by rw [len_tl, tl_append, List.length_append, ← len_tl, ← len_tl]; omega, by rw [tl_append, tl_append, hRl, tl1, tl4]; exact wrong7 R⟩
          · exact ⟨_, rfl, by rw [len_tl, tl_append, List.length_append, ← len_tl, ← len_tl]; omega, by rw [tl_append, hRl, tl5]; exact wrong8 R⟩
        walk_at "gd"
        refine ⟨z, rfl, hz1, fun H2 s2 => ?_⟩
        walk_at "gd"
        refine ite_no hz2 ?_
        walk_at "gd"
        refine ⟨z, rfl, hz1, fun H3 s3 => ?_⟩
        walk_at "gd"
        refine ite_no hz3 ?_
        walk_at "gd"
        exact ⟨_, rfl, (kk.same s2).same s3⟩
      obtain ⟨z10, rfl, k14⟩ := hp
      have k14 : Kn (some d) H1 [(p8, .lst ((spN rel).map (V.str ∘ ofL)))] H' := k14.sub (by walk_at "sub")
      clear k13
      refine s_dn ?_
      refine s_ifF (Kn (some d) H1 []) (fun QB qb => ?_) (fun H15 k15 => ?_)
      · walk_at "gd"
        by_cases hg : hasN rel = true
        rotate_left
        · rw [Bool.not_eq_true] at hg
          refine ite_no hg ?_
          exact qb _ k14.none_
        refine ite_yes hg ?_
        walk_at "gd"
        refine ite_d (fun h5 => ?_) (fun h5 => ?_)
        rotate_left
        · exact qb _ k14.none_
        walk_at "gd"
        rw [List.length_map]
        refine ite_d (fun h6 => ?_) (fun h6 => ?_)
        rotate_left
        · exact qb _ k14.none_
        have h5' : (47 :: rel).length ≤ 250 := by rw [hP] at h5; omega
        have h6' : (spN rel).length < 16 := by omega
        have la : (pth ++ Str.ofString "/abc").length ≤ 1000 := by rw [len_tl, tl_append, List.length_append, ← len_tl, ← len_tl]; omega
        have lb : (Str.ofString "/abc" ++ pth).length ≤ 1000 := by rw [len_tl, tl_append, List.length_append, ← len_tl, ← len_tl]; omega
        have m1 := more1 R hg h5' h6'
        have m2 := more2 R hg h5' h6'
        walk_at "gd"
        refine ⟨_, rfl, la, fun H2 s2 => ?_⟩
        have k2 := k14.same s2
        rw [tl_append, hP, tl6, m1.1]
        walk_at "gd"
        refine iteF ?_
        walk_at "gd"
        refine ⟨_, rfl, la, fun H3 q3 s3 h3 e3 => ?_⟩
        have k3 := k2.ret h3 s3 e3
        rw [tl_append, hP, tl6, m1.2] at k3
        walk_at "gd"
        rename_i q4 H4 q5 H5 k5
        have e1 : (spN rel ++ [[97, 98, 99]]).map (V.str ∘ ofL) = ((spN rel).map ofL ++ [ofL [97, 98, 99]]).map V.str := by simp
        have e2 : (spN rel).map (V.str ∘ ofL) ++ [V.str (Str.ofString "abc")] = ((spN rel).map ofL ++ [ofL [97, 98, 99]]).map V.str := by
          rw [show Str.ofString "abc" = ofL [97, 98, 99] by decide +kernel]; simp
        have oks2 : ∀ y ∈ (spN rel).map ofL ++ [ofL [97, 98, 99]], PyData.strOk y = true := fun y hy' => by
          rcases List.mem_append.mp hy' with w | w
          · exact oks y w
          · rw [List.mem_singleton.mp w]; decide +kernel
        rw [e1, e2] at k5
        refine s_neLS (kn_sq k5 2 rfl) (kn_sq k5 0 rfl) oks2 oks2 ?_
        walk_at "gd"
        refine ite_no (by simp) ?_
        walk_at "gd"
        refine ⟨_, rfl, lb, fun H6 s6 => ?_⟩
        rw [tl_append, hP, tl6, show [47, 97, 98, 99] ++ 47 :: rel = 47 :: 97 :: 98 :: 99 :: 47 :: rel from rfl, m2]
        walk_at "gd"
        exact qb _ (k5.same s6).none_
      · clear k14
        walk_at "gd"
        exact ⟨_, _, _, _, _, _, _, _, _, rfl, k15⟩
    · obtain ⟨y2, y3, y4, y5, y6, y7, y8, y9, y10, rfl, kk⟩ := hp
      have c1 : isP (tl (Str.ofString "/")) = true := by decide +kernel
      have c2 : isT (tl (Str.ofString "/")) = true := by decide +kernel
      have c3 : isP (tl (Str.ofString "")) = false := by decide +kernel
      have c4 : isT (tl (Str.ofString "")) = false := by decide +kernel
      have c5 : nmO (tl (Str.ofString "/")) = [] := by decide +kernel
      walk_at "gd"
      refine ⟨_, rfl, by decide +kernel, fun H2 s2 => ?_⟩
      have kk := kk.same s2
      rw [c1]
      walk_at "gd"
      refine ⟨_, rfl, by decide +kernel, fun H3 s3 => ?_⟩
      have kk := kk.same s3
      rw [c2]
      walk_at "gd"
      refine ⟨_, rfl, by decide +kernel, fun H4 s4 => ?_⟩
      have kk := kk.same s4
      rw [c3]
      walk_at "gd"
      refine ⟨_, rfl, by decide +kernel, fun H5 s5 => ?_⟩
      have kk := kk.same s5
      rw [c4]
      walk_at "gd"
      refine ⟨_, rfl, by decide +kernel, fun H6 q6 s6 h6 e6 => ?_⟩
      have kk := kk.ret h6 s6 e6
      rw [c5] at kk
      clear e6
      walk_at "gd"
      rename Kn _ _ _ _ => k7
      refine ⟨_, _, .list [.bool true, .bool true, .bool false, .bool false, .list []], rfl, rfl, .lst (kn_sq k7 2 rfl) (.cons (.bl _) (.cons (.bl _) (.cons (.bl _) (.cons (.bl _) (.cons (.lst (kn_sq k7 3 rfl) .nil) .nil))))),
        .lst (kn_sq k7 0 rfl) (.cons (.bl _) (.cons (.bl _) (.cons (.bl _) (.cons (.bl _) (.cons (.lst (kn_sq k7 1 rfl) .nil) .nil))))), fun H8 s8 => ?_⟩
      have kk := k7.same s8
      walk_at "gd"
      refine iteF ?_
      walk_at "gd"
      refine s_repS (by decide) (by decide) (by decide +kernel) ?_
      walk_at "gd"
      refine ⟨_, rfl, by decide +kernel, fun H9 s9 => ?_⟩
      have kk := kk.same s9
      walk_at "gd"
      refine s_repS (by decide) (by decide) (by decide +kernel) ?_
      walk_at "gd"
      refine ⟨_, rfl, by decide +kernel, fun H10 s10 => ?_⟩
      have kk := kk.same s10
      walk_at "gd"
      refine s_repS (by decide) (by decide) (by decide +kernel) ?_
      walk_at "gd"
      refine ⟨_, rfl, by decide +kernel, fun H11 s11 => ?_⟩
      have kk := kk.same s11
      walk_at "gd"
      rename Kn _ _ _ _ => k12
      rw [show isP (tl (Str.ofString "/" ++ ⟨(List.replicate (Int.toNat 32) (tl (Str.ofString "a"))).flatten.toArray⟩)) = true by decide +kernel, show isP (tl (Str.ofString "/" ++ ⟨(List.replicate (Int.toNat 33) (tl (Str.ofString "a"))).flatten.toArray⟩)) = false by decide +kernel,
        show isT (tl ⟨(List.replicate (Int.toNat 32) (tl (Str.ofString "a"))).flatten.toArray⟩) = true by decide +kernel] at k12
      refine ⟨_, _, .list [.bool true, .bool false, .bool true], rfl, rfl, .lst (kn_sq k12 1 rfl) (.cons (.bl _) (.cons (.bl _) (.cons (.bl _) .nil))), .lst (kn_sq k12 0 rfl) (.cons (.bl _) (.cons (.bl _) (.cons (.bl _) .nil))), fun H13 s13 => ?_⟩
      walk_at "gd"
      exact q _
end

theorem all_mk {l : PySem.W.OpenLaw} {w : World} {K : PySem.W.Frag} {h : Heap} {mg : Str → Option Value} {fa : Addr} (X : K.In h) (G : h.Ns mainGlobals mg) (hfa : mg "law" = some (.ref fa))
    {f0 : Addr} {od0 an0 : Option Addr} {sl0 : Array (Option Value)} {oc0 kV0 dc0 pm0 cd0 ct0 : Value} {f1 : Addr} {od1 an1 : Option Addr} {sl1 : Array (Option Value)} {oc1 kV1 dc1 pm1 cd1 ct1 : Value} {f2 : Addr} {od2 an2 : Option Addr} {sl2 : Array (Option Value)} {oc2 kV2 dc2 pm2 cd2 ct2 : Value} {f3 : Addr} {od3 an3 : Option Addr} {sl3 : Array (Option Value)} {oc3 kV3 dc3 pm3 cd3 ct3 : Value} {f4 : Addr} {od4 an4 : Option Addr} {sl4 : Array (Option Value)} {oc4 kV4 dc4 pm4 cd4 ct4 : Value} {f5 : Addr} {od5 an5 : Option Addr} {sl5 : Array (Option Value)} {oc5 kV5 dc5 pm5 cd5 ct5 : Value} {f6 : Addr} {od6 an6 : Option Addr} {sl6 : Array (Option Value)} {oc6 kV6 dc6 pm6 cd6 ct6 : Value} {f7 : Addr} {od7 an7 : Option Addr} {sl7 : Array (Option Value)} {oc7 kV7 dc7 pm7 cd7 ct7 : Value} {f8 : Addr} {od8 an8 : Option Addr} {sl8 : Array (Option Value)} {oc8 kV8 dc8 pm8 cd8 ct8 : Value} {f9 : Addr} {od9 an9 : Option Addr} {sl9 : Array (Option Value)} {oc9 kV9 dc9 pm9 cd9 ct9 : Value} {f10 : Addr} {od10 an10 : Option Addr} {sl10 : Array (Option Value)} {oc10 kV10 dc10 pm10 cd10 ct10 : Value} {f11 : Addr} {od11 an11 : Option Addr} {sl11 : Array (Option Value)} {oc11 kV11 dc11 pm11 cd11 ct11 : Value} {f12 : Addr} {od12 an12 : Option Addr} {sl12 : Array (Option Value)} {oc12 kV12 dc12 pm12 cd12 ct12 : Value} {tk0 : Tok} {tk1 : Tok} {tk2 : Tok} {tk3 : Tok}
    (a0 : PySem.W.nsIn K mainGlobals "is_name" = some (some (.ref f0))) (l0 : K.lookup f0 = some ⟨oc0, od0, .func (PySem.W.fnOf "is_name" "is_name" (defArgs s_is_name) (defBody s_is_name) (defScope s_is_name) .none kV0 dc0 pm0 an0 cd0 ct0), sl0⟩) (c0 : PySem.W.codeIn K cd0 "is_name" = true) (k0 : PySem.W.keepIn K (.ref f0) = true)
    (a1 : PySem.W.nsIn K mainGlobals "has_names" = some (some (.ref f1))) (l1 : K.lookup f1 = some ⟨oc1, od1, .func (PySem.W.fnOf "has_names" "has_names" (defArgs s_has_names) (defBody s_has_names) (defScope s_has_names) .none kV1 dc1 pm1 an1 cd1 ct1), sl1⟩) (c1 : PySem.W.codeIn K cd1 "has_names" = true) (k1 : PySem.W.keepIn K (.ref f1) = true)
    (a2 : PySem.W.nsIn K mainGlobals "is_path" = some (some (.ref f2))) (l2 : K.lookup f2 = some ⟨oc2, od2, .func (PySem.W.fnOf "is_path" "is_path" (defArgs s_is_path) (defBody s_is_path) (defScope s_is_path) .none kV2 dc2 pm2 an2 cd2 ct2), sl2⟩) (c2 : PySem.W.codeIn K cd2 "is_path" = true) (k2 : PySem.W.keepIn K (.ref f2) = true)
    (a3 : PySem.W.nsIn K mainGlobals "is_target" = some (some (.ref f3))) (l3 : K.lookup f3 = some ⟨oc3, od3, .func (PySem.W.fnOf "is_target" "is_target" (defArgs s_is_target) (defBody s_is_target) (defScope s_is_target) .none kV3 dc3 pm3 an3 cd3 ct3), sl3⟩) (c3 : PySem.W.codeIn K cd3 "is_target" = true) (k3 : PySem.W.keepIn K (.ref f3) = true)
    (a4 : PySem.W.nsIn K mainGlobals "names_of" = some (some (.ref f4))) (l4 : K.lookup f4 = some ⟨oc4, od4, .func (PySem.W.fnOf "names_of" "names_of" (defArgs s_names_of) (defBody s_names_of) (defScope s_names_of) .none kV4 dc4 pm4 an4 cd4 ct4), sl4⟩) (c4 : PySem.W.codeIn K cd4 "names_of" = true) (k4 : PySem.W.keepIn K (.ref f4) = true)
    (a5 : PySem.W.nsIn K mainGlobals "_law_deck" = some (some (.ref f5))) (l5 : K.lookup f5 = some ⟨oc5, od5, .func (PySem.W.fnOf "_law_deck" "_law_deck" (defArgs s_u_law_deck) (defBody s_u_law_deck) (defScope s_u_law_deck) .none kV5 dc5 pm5 an5 cd5 ct5), sl5⟩) (c5 : PySem.W.codeIn K cd5 "_law_deck" = true) (k5 : PySem.W.keepIn K (.ref f5) = true)
    (a6 : PySem.W.nsIn K mainGlobals "_law_take" = some (some (.ref f6))) (l6 : K.lookup f6 = some ⟨oc6, od6, .func (PySem.W.fnOf "_law_take" "_law_take" (defArgs s_u_law_take) (defBody s_u_law_take) (defScope s_u_law_take) .none kV6 dc6 pm6 an6 cd6 ct6), sl6⟩) (c6 : PySem.W.codeIn K cd6 "_law_take" = true) (k6 : PySem.W.keepIn K (.ref f6) = true)
    (a7 : PySem.W.nsIn K mainGlobals "_law_pick" = some (some (.ref f7))) (l7 : K.lookup f7 = some ⟨oc7, od7, .func (PySem.W.fnOf "_law_pick" "_law_pick" (defArgs s_u_law_pick) (defBody s_u_law_pick) (defScope s_u_law_pick) .none kV7 dc7 pm7 an7 cd7 ct7), sl7⟩) (c7 : PySem.W.codeIn K cd7 "_law_pick" = true) (k7 : PySem.W.keepIn K (.ref f7) = true)
    (a8 : PySem.W.nsIn K mainGlobals "_law_plain" = some (some (.ref f8))) (l8 : K.lookup f8 = some ⟨oc8, od8, .func (PySem.W.fnOf "_law_plain" "_law_plain" (defArgs s_u_law_plain) (defBody s_u_law_plain) (defScope s_u_law_plain) .none kV8 dc8 pm8 an8 cd8 ct8), sl8⟩) (c8 : PySem.W.codeIn K cd8 "_law_plain" = true) (k8 : PySem.W.keepIn K (.ref f8) = true)
    (a9 : PySem.W.nsIn K mainGlobals "_law_same" = some (some (.ref f9))) (l9 : K.lookup f9 = some ⟨oc9, od9, .func (PySem.W.fnOf "_law_same" "_law_same" (defArgs s_u_law_same) (defBody s_u_law_same) (defScope s_u_law_same) .none kV9 dc9 pm9 an9 cd9 ct9), sl9⟩) (c9 : PySem.W.codeIn K cd9 "_law_same" = true) (k9 : PySem.W.keepIn K (.ref f9) = true)
    (a10 : PySem.W.nsIn K mainGlobals "_law_name" = some (some (.ref f10))) (l10 : K.lookup f10 = some ⟨oc10, od10, .func (PySem.W.fnOf "_law_name" "_law_name" (defArgs s_u_law_name) (defBody s_u_law_name) (defScope s_u_law_name) .none kV10 dc10 pm10 an10 cd10 ct10), sl10⟩) (c10 : PySem.W.codeIn K cd10 "_law_name" = true) (k10 : PySem.W.keepIn K (.ref f10) = true)
    (a11 : PySem.W.nsIn K mainGlobals "_law_is_name" = some (some (.ref f11))) (l11 : K.lookup f11 = some ⟨oc11, od11, .func (PySem.W.fnOf "_law_is_name" "_law_is_name" (defArgs s_u_law_is_name) (defBody s_u_law_is_name) (defScope s_u_law_is_name) .none kV11 dc11 pm11 an11 cd11 ct11), sl11⟩) (c11 : PySem.W.codeIn K cd11 "_law_is_name" = true) (k11 : PySem.W.keepIn K (.ref f11) = true)
    (a12 : PySem.W.nsIn K mainGlobals "law" = some (some (.ref f12))) (l12 : K.lookup f12 = some ⟨oc12, od12, .func (PySem.W.fnOf "law" "law" (defArgs s_law) (defBody s_law) (defScope s_law) .none kV12 dc12 pm12 an12 cd12 ct12), sl12⟩) (c12 : PySem.W.codeIn K cd12 "law" = true) (k12 : PySem.W.keepIn K (.ref f12) = true)
    (z0 : PySem.W.nsIn K mainGlobals "len" = some none)
    (z1 : PySem.W.nsIn K mainGlobals "all" = some none)
    (z2 : PySem.W.nsIn K mainGlobals "range" = some none)
    (z3 : PySem.W.nsIn K mainGlobals "int" = some none)
    (z4 : PySem.W.nsIn K mainGlobals "abs" = some none)
    (z5 : PySem.W.nsIn K mainGlobals "list" = some none)
    (z6 : PySem.W.nsIn K mainGlobals "tuple" = some none)
    (z7 : PySem.W.nsIn K mainGlobals "isinstance" = some none)
    (z8 : PySem.W.nsIn K mainGlobals "bool" = some none)
    (z9 : PySem.W.nsIn K mainGlobals "str" = some none)
    (v0 : PySem.W.nsIn K mainGlobals "NAME_MOST" = some (some (.int 32 tk0)))
    (v1 : PySem.W.nsIn K mainGlobals "NAME_CHARS" = some (some (.str "ABCDEFGHIJKLMNOPQRSTUVWXYZabcdefghijklmnopqrstuvwxyz0123456789_-." tk1)))
    (v2 : PySem.W.nsIn K mainGlobals "NAMES_MOST" = some (some (.int 16 tk2)))
    (v3 : PySem.W.nsIn K mainGlobals "PATH_MOST" = some (some (.int 256 tk3))) :
    ∃ fd : FuncData, (∀ (s : Shared) (v : Value), BindsTo s fd ⟨[v], []⟩ [("script", v)]) ∧ ∀ base : Heap, K.In base → base.Ns mainGlobals mg → FnOk l.prog w K mg base CX0 11 fa fd ["script"] (sp_law K) := by
  have e := hfa.symm.trans (PySem.W.mg_of X G a12)
  cases e
  have F0 := fun_mk (st := s_is_name) l0 c0 k0
  have b0 := F0.binds (ps := ["text"]) fun _ _ _ _ _ _ us hl => match us, hl with | [_], _ => rfl
  have F1 := fun_mk (st := s_has_names) l1 c1 k1
  have b1 := F1.binds (ps := ["text"]) fun _ _ _ _ _ _ us hl => match us, hl with | [_], _ => rfl
  have F2 := fun_mk (st := s_is_path) l2 c2 k2
  have b2 := F2.binds (ps := ["text"]) fun _ _ _ _ _ _ us hl => match us, hl with | [_], _ => rfl
  have F3 := fun_mk (st := s_is_target) l3 c3 k3
  have b3 := F3.binds (ps := ["text"]) fun _ _ _ _ _ _ us hl => match us, hl with | [_], _ => rfl
  have F4 := fun_mk (st := s_names_of) l4 c4 k4
  have b4 := F4.binds (ps := ["path"]) fun _ _ _ _ _ _ us hl => match us, hl with | [_], _ => rfl
  have F5 := fun_mk (st := s_u_law_deck) l5 c5 k5
  have b5 := F5.binds (ps := ["script", "cells", "each"]) fun _ _ _ _ _ _ us hl => match us, hl with | [_, _, _], _ => rfl
  have F6 := fun_mk (st := s_u_law_take) l6 c6 k6
  have b6 := F6.binds (ps := ["deck", "many"]) fun _ _ _ _ _ _ us hl => match us, hl with | [_, _], _ => rfl
  have F7 := fun_mk (st := s_u_law_pick) l7 c7 k7
  have b7 := F7.binds (ps := ["deck", "items"]) fun _ _ _ _ _ _ us hl => match us, hl with | [_, _], _ => rfl
  have F8 := fun_mk (st := s_u_law_plain) l8 c8 k8
  have b8 := F8.binds (ps := ["value"]) fun _ _ _ _ _ _ us hl => match us, hl with | [_], _ => rfl
  have F9 := fun_mk (st := s_u_law_same) l9 c9 k9
  have b9 := F9.binds (ps := ["told", "due"]) fun _ _ _ _ _ _ us hl => match us, hl with | [_, _], _ => rfl
  have F10 := fun_mk (st := s_u_law_name) l10 c10 k10
  have b10 := F10.binds (ps := ["deck"]) fun _ _ _ _ _ _ us hl => match us, hl with | [_], _ => rfl
  have F11 := fun_mk (st := s_u_law_is_name) l11 c11 k11
  have b11 := F11.binds (ps := ["text"]) fun _ _ _ _ _ _ us hl => match us, hl with | [_], _ => rfl
  have F12 := fun_mk (st := s_law) l12 c12 k12
  have b12 := F12.binds (ps := ["script"]) fun _ _ _ _ _ _ us hl => match us, hl with | [_], _ => rfl
  refine ⟨PySem.W.fnOf "law" "law" (defArgs s_law) (defBody s_law) (defScope s_law) .none kV12 dc12 pm12 an12 cd12 ct12, fun s v => .of_eq rfl, fun base _ _ => ?_⟩
  exact ok_law (P := l.prog) (w := w) (base := base) ({ m_len := PySem.W.mg_none_of X G z0, m_all := PySem.W.mg_none_of X G z1, m_range := PySem.W.mg_none_of X G z2, m_int := PySem.W.mg_none_of X G z3, m_abs := PySem.W.mg_none_of X G z4, m_list := PySem.W.mg_none_of X G z5, m_tuple := PySem.W.mg_none_of X G z6, m_isinstance := PySem.W.mg_none_of X G z7, m_bool := PySem.W.mg_none_of X G z8, m_str := PySem.W.mg_none_of X G z9, t_NAME_MOST := tk0, v_NAME_MOST := PySem.W.mg_of X G v0, t_NAME_CHARS := tk1, v_NAME_CHARS := PySem.W.mg_of X G v1, t_NAMES_MOST := tk2, v_NAMES_MOST := PySem.W.mg_of X G v2, t_PATH_MOST := tk3, v_PATH_MOST := PySem.W.mg_of X G v3, f_is_name := f0, d_is_name := _, F_is_name := F0, g_is_name := PySem.W.mg_of X G a0, b_is_name := b0, f_has_names := f1, d_has_names := _, F_has_names := F1, g_has_names := PySem.W.mg_of X G a1, b_has_names := b1, f_is_path := f2, d_is_path := _, F_is_path := F2, g_is_path := PySem.W.mg_of X G a2, b_is_path := b2, f_is_target := f3, d_is_target := _, F_is_target := F3, g_is_target := PySem.W.mg_of X G a3, b_is_target := b3, f_names_of := f4, d_names_of := _, F_names_of := F4, g_names_of := PySem.W.mg_of X G a4, b_names_of := b4, f_u_law_deck := f5, d_u_law_deck := _, F_u_law_deck := F5, g_u_law_deck := PySem.W.mg_of X G a5, b_u_law_deck := b5, f_u_law_take := f6, d_u_law_take := _, F_u_law_take := F6, g_u_law_take := PySem.W.mg_of X G a6, b_u_law_take := b6, f_u_law_pick := f7, d_u_law_pick := _, F_u_law_pick := F7, g_u_law_pick := PySem.W.mg_of X G a7, b_u_law_pick := b7, f_u_law_plain := f8, d_u_law_plain := _, F_u_law_plain := F8, g_u_law_plain := PySem.W.mg_of X G a8, b_u_law_plain := b8, f_u_law_same := f9, d_u_law_same := _, F_u_law_same := F9, g_u_law_same := PySem.W.mg_of X G a9, b_u_law_same := b9, f_u_law_name := f10, d_u_law_name := _, F_u_law_name := F10, g_u_law_name := PySem.W.mg_of X G a10, b_u_law_name := b10, f_u_law_is_name := f11, d_u_law_is_name := _, F_u_law_is_name := F11, g_u_law_is_name := PySem.W.mg_of X G a11, b_u_law_is_name := b11, f_law := fa, d_law := _, F_law := F12, g_law := PySem.W.mg_of X G a12, b_law := b12 } : Txt w K mg)
end Tm
open PySem PySem.W PyProof.Rows
set_option maxHeartbeats 0 in
theorem PySem.Challenge.cw_tidemark_k10_whole_names_and_paths_put_t_holds : PySem.Challenge.rw_tidemark_k10_whole_names_and_paths_put_t.Holds := by
  w_on; o_law; k_head; (case hw => w_witness2)
  k_fill
  refine L2.walk_of (l := PySem.Challenge.rw_tidemark_k10_whole_names_and_paths_put_t) (n := 63) (k := 11) (x := "script") (CX := fun _ => L2.CX0) (sp := fun w => Tm.sp_law _) rfl (by decide) rfl ⟨rfl, by decide, by decide⟩ (fun w h Y => PySem.W.kIn_of Y) ?F (fun _ _ a ns hl _ hS => ⟨a, ns, rfl, hS, hl, fun _ => rfl⟩) (fun _ _ _ _ _ h => h)
  case F =>
    intro w mg fa h KX G hmg
    refine' Tm.all_mk KX G hmg ?a0 ?l0 ?c0 ?k0 ?a1 ?l1 ?c1 ?k1 ?a2 ?l2 ?c2 ?k2 ?a3 ?l3 ?c3 ?k3 ?a4 ?l4 ?c4 ?k4 ?a5 ?l5 ?c5 ?k5 ?a6 ?l6 ?c6 ?k6 ?a7 ?l7 ?c7 ?k7 ?a8 ?l8 ?c8 ?k8 ?a9 ?l9 ?c9 ?k9 ?a10 ?l10 ?c10 ?k10 ?a11 ?l11 ?c11 ?k11 ?a12 ?l12 ?c12 ?k12 ?z0 ?z1 ?z2 ?z3 ?z4 ?z5 ?z6 ?z7 ?z8 ?z9 ?v0 ?v1 ?v2 ?v3
    (case a0 => k_is); (case l0 => k_is); (case c0 => k_is); (case k0 => k_is); (case a1 => k_is); (case l1 => k_is); (case c1 => k_is); (case k1 => k_is); (case a2 => k_is); (case l2 => k_is); (case c2 => k_is); (case k2 => k_is); (case a3 => k_is); (case l3 => k_is); (case c3 => k_is); (case k3 => k_is); (case a4 => k_is); (case l4 => k_is); (case c4 => k_is); (case k4 => k_is); (case a5 => k_is); (case l5 => k_is); (case c5 => k_is); (case k5 => k_is); (case a6 => k_is); (case l6 => k_is); (case c6 => k_is); (case k6 => k_is); (case a7 => k_is); (case l7 => k_is); (case c7 => k_is); (case k7 => k_is); (case a8 => k_is); (case l8 => k_is); (case c8 => k_is); (case k8 => k_is); (case a9 => k_is); (case l9 => k_is); (case c9 => k_is); (case k9 => k_is); (case a10 => k_is); (case l10 => k_is); (case c10 => k_is); (case k10 => k_is); (case a11 => k_is); (case l11 => k_is); (case c11 => k_is); (case k11 => k_is); (case a12 => k_is); (case l12 => k_is); (case c12 => k_is); (case k12 => k_is); (case z0 => k_is); (case z1 => k_is); (case z2 => k_is); (case z3 => k_is); (case z4 => k_is); (case z5 => k_is); (case z6 => k_is); (case z7 => k_is); (case z8 => k_is); (case z9 => k_is); (case v0 => k_is); (case v1 => k_is); (case v2 => k_is); (case v3 => k_is)
