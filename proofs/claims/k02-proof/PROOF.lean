import PyProof.Rows.All
import Wide.All
import OpenK.AllK
import Wide.FinOn
import HandS.ForMost
import HandS.TryOnly
import HandS.SortInts
import HandS.StrMore
import HandS.Style
import PySem.Challenge.RW_tidemark_k02_whole_sums_go_along
set_option Elab.async false
set_option linter.all false
set_option maxRecDepth 100000
namespace Tm
open PySem PySem.Spec PyProof.Rows L2

/-! ### heaps -/
/-- the deck: a list of draws -/
def DkOk (d : Addr) (H : Hp) : Prop := ∃ ds : List Int, H d = some (.lst (ds.map V.int)) ∧ (∀ x ∈ ds, 0 ≤ x ∧ x < 1000003) ∧ ds.length ≤ 10000
/-- all but the deck at d stays as it is; the deck is a deck -/
def Dx (d : Addr) (H H' : Hp) : Prop := (∀ a o, a ≠ d → H a = some o → H' a = some o) ∧ DkOk d H'
/-- what a body knows: since H0 all that was tracked (but the deck) is as it was; the objects of G are new and its own -/
structure Kn (d : Option Addr) (H0 : Hp) (G : List (Addr × HO)) (H : Hp) : Prop where
  keep : ∀ a o, some a ≠ d → H0 a = some o → H a = some o
  dk : ∀ a, d = some a → DkOk a H
  dk0 : ∀ a, d = some a → H0 a ≠ none
  nd : (G.map Prod.fst).Nodup
  nw : ∀ e ∈ G, H0 e.1 = none
  at_ : ∀ e ∈ G, H e.1 = some e.2
theorem DkOk.some {d : Addr} {H : Hp} (h : DkOk d H) : H d ≠ none := by
  obtain ⟨ds, e, _⟩ := h
  rw [e]; exact fun z => nomatch z
theorem Kn.nil {H : Hp} : Kn none H [] H := ⟨fun _ _ _ h => h, (fun _ z => nomatch z), (fun _ z => nomatch z), List.nodup_nil, (fun _ z => nomatch z), (fun _ z => nomatch z)⟩
theorem Kn.deck {d : Addr} {H : Hp} (h : DkOk d H) : Kn (some d) H [] H := ⟨fun _ _ _ h => h, fun _ z => by cases z; exact h, fun _ z => by cases z; exact h.some, List.nodup_nil, (fun _ z => nomatch z), (fun _ z => nomatch z)⟩
section
variable {d : Option Addr} {H0 H H' : Hp} {G : List (Addr × HO)} {p : Addr} {o o' : HO}
theorem Kn.fresh (k : Kn d H0 G H) (h : H p = none) : H0 p = none := by
  cases e : H0 p with
  | none => rfl
  | some u =>
    by_cases z : some p = d
    · exact absurd h (k.dk p z.symm).some
    · rw [k.keep p u z e] at h; cases h
theorem Kn.new (k : Kn d H0 G H) (h : H p = none) : Kn d H0 ((p, o) :: G) (upd H p o) := by
  have hd : ∀ a, d = some a → a ≠ p := fun a z e => by subst e; exact absurd h (k.dk a z).some
  have hg : ∀ e ∈ G, e.1 ≠ p := fun e he z => by have := k.at_ e he; rw [z, h] at this; cases this
  refine ⟨fun a u na e => ?_, fun a z => ?_, k.dk0, ?_, fun e he => ?_, fun e he => ?_⟩
  · have e1 := k.keep a u na e
    rw [upd_ne (ne_of_none e1 h)]; exact e1
  · obtain ⟨ds, e1, r⟩ := k.dk a z
    exact ⟨ds, by rw [upd_ne (hd a z)]; exact e1, r⟩
  · refine List.nodup_cons.mpr ⟨fun hm => ?_, k.nd⟩
    obtain ⟨e, he, z⟩ := List.mem_map.mp hm
    exact hg e he z
  · rcases List.mem_cons.mp he with rfl | he
    · exact k.fresh h
    · exact k.nw e he
  · rcases List.mem_cons.mp he with rfl | he
    · exact upd_same
    · rw [upd_ne (hg e he)]; exact k.at_ e he
theorem Kn.get (k : Kn d H0 G H) (i : Nat) (h : G[i]? = some (p, o)) : H p = some o := k.at_ (p, o) (List.mem_of_getElem? h)
theorem Kn.nw_at (k : Kn d H0 G H) (i : Nat) (h : G[i]? = some (p, o)) : H0 p = none := k.nw (p, o) (List.mem_of_getElem? h)
/-- one of the body's own objects is changed -/
theorem Kn.put (k : Kn d H0 G H) (i : Nat) (h : G[i]? = some (p, o)) : Kn d H0 (G.set i (p, o')) (upd H p o') := by
  have np := k.nw_at i h
  have hd : ∀ a, d = some a → a ≠ p := fun a z e => by subst e; exact absurd np (k.dk0 a z)
  obtain ⟨hi, hgi⟩ := List.getElem?_eq_some_iff.mp h
  have hm : (G.set i (p, o')).map Prod.fst = G.map Prod.fst := by
    rw [List.map_set]
    refine List.ext_getElem? fun j => ?_
    by_cases hj : i = j
    · subst hj
      rw [List.getElem?_set_self (by simpa using hi), List.getElem?_map, h]; rfl
    · rw [List.getElem?_set_ne hj]
  refine ⟨fun a u na e => ?_, fun a z => ?_, k.dk0, by rw [hm]; exact k.nd, fun e he => ?_, fun e he => ?_⟩
  · have e1 := k.keep a u na e
    rw [upd_ne (ne_of_none e np)]; exact e1
  · obtain ⟨ds, e1, r⟩ := k.dk a z
    exact ⟨ds, by rw [upd_ne (hd a z)]; exact e1, r⟩
  · have : e.1 ∈ (G.set i (p, o')).map Prod.fst := List.mem_map_of_mem he
    rw [hm] at this
    obtain ⟨e', he', z⟩ := List.mem_map.mp this
    rw [← z]; exact k.nw e' he'
  · obtain ⟨j, hj⟩ := List.getElem?_of_mem he
    by_cases hij : i = j
    · subst hij
      rw [List.getElem?_set_self hi] at hj
      cases hj
      exact upd_same
    · rw [List.getElem?_set_ne hij] at hj
      have hne : e.1 ≠ p := fun z => by
        have h1 : (G.map Prod.fst)[j]? = some e.1 := by rw [List.getElem?_map, hj]; rfl
        have h2 : (G.map Prod.fst)[i]? = some e.1 := by rw [List.getElem?_map, h, z]; rfl
        exact hij (nd_ix k.nd h2 h1)
      rw [upd_ne hne]; exact k.at_ e (List.mem_of_getElem? hj)
theorem Kn.same (k : Kn d H0 G H) (s : Same H H') : Kn d H0 G H' :=
  ⟨fun a u na e => s a u (k.keep a u na e), fun a z => let ⟨ds, e, r⟩ := k.dk a z; ⟨ds, s a _ e, r⟩, k.dk0, k.nd, k.nw, fun e he => s _ _ (k.at_ e he)⟩
theorem Kn.ret (k : Kn d H0 G H) (h : H p = none) (s : Same H H') (e : H' p = some o) : Kn d H0 ((p, o) :: G) H' := by
  have hg : ∀ e ∈ G, e.1 ≠ p := fun e he z => by have := k.at_ e he; rw [z, h] at this; cases this
  have k' := k.same s
  refine ⟨k'.keep, k'.dk, k'.dk0, ?_, fun u hu => ?_, fun u hu => ?_⟩
  · refine List.nodup_cons.mpr ⟨fun hm => ?_, k.nd⟩
    obtain ⟨e, he, z⟩ := List.mem_map.mp hm
    exact hg e he z
  · rcases List.mem_cons.mp hu with rfl | hu
    · exact k.fresh h
    · exact k.nw u hu
  · rcases List.mem_cons.mp hu with rfl | hu
    · exact e
    · exact k'.at_ u hu
theorem Kn.forget (k : Kn d H0 G H) (n : Nat) : Kn d H0 (G.drop n) H :=
  ⟨k.keep, k.dk, k.dk0, by rw [List.map_drop]; exact k.nd.sublist (List.drop_sublist _ _), fun e he => k.nw e (List.mem_of_mem_drop he), fun e he => k.at_ e (List.mem_of_mem_drop he)⟩
theorem Kn.none_ (k : Kn d H0 G H) : Kn d H0 [] H := ⟨k.keep, k.dk, k.dk0, List.nodup_nil, (fun _ z => nomatch z), (fun _ z => nomatch z)⟩
end
section
variable {d : Addr} {H0 H H' : Hp} {G : List (Addr × HO)} {p : Addr} {o o' : HO}
theorem Kn.dx (k : Kn (some d) H0 G H) (x : Dx d H H') : Kn (some d) H0 G H' :=
  ⟨fun a u na e => x.1 a u (fun z => na (by rw [z])) (k.keep a u na e), fun a z => by cases z; exact x.2, k.dk0, k.nd, k.nw,
    fun e he => x.1 _ _ (fun z => k.dk0 d rfl (z ▸ k.nw e he)) (k.at_ e he)⟩
theorem Kn.dk' (k : Kn (some d) H0 G H) : DkOk d H := k.dk d rfl
theorem Kn.toDx (k : Kn (some d) H0 G H) : Dx d H0 H := ⟨fun a o na e => k.keep a o (fun z => na (Option.some.inj z)) e, k.dk'⟩
/-- a call that makes a new object and draws -/
theorem Kn.retD (k : Kn (some d) H0 G H) (h : H p = none) (x : Dx d H H') (e : H' p = some o) : Kn (some d) H0 ((p, o) :: G) H' := by
  have hg : ∀ e ∈ G, e.1 ≠ p := fun e he z => by have := k.at_ e he; rw [z, h] at this; cases this
  have k' := k.dx x
  refine ⟨k'.keep, k'.dk, k'.dk0, ?_, fun u hu => ?_, fun u hu => ?_⟩
  · refine List.nodup_cons.mpr ⟨fun hm => ?_, k.nd⟩
    obtain ⟨e, he, z⟩ := List.mem_map.mp hm
    exact hg e he z
  · rcases List.mem_cons.mp hu with rfl | hu
    · exact k.fresh h
    · exact k.nw u hu
  · rcases List.mem_cons.mp hu with rfl | hu
    · exact e
    · exact k'.at_ u hu
end
theorem Kn.toSame {H0 H : Hp} {G : List (Addr × HO)} (k : Kn none H0 G H) : Same H0 H := fun a o e => k.keep a o (fun z => nomatch z) e
theorem Kn.sq {K : PySem.W.Frag} {d : Option Addr} {H0 H : Hp} {G : List (Addr × HO)} {a : Addr} {xs : List V} (k : Kn d H0 G H) (h : SqL K H0 a xs) (n : some a ≠ d) : SqL K H a xs := by
  rcases h with (h | ⟨o, h⟩) | h
  · exact .inl (.inl (k.keep _ _ n h))
  · exact .inl (.inr ⟨o, k.keep _ _ n h⟩)
  · exact .inr h

/-! ### steps of a reading -/
section
variable {X : Cx} {K : PySem.W.Frag} {σ : L2.St} {H : Hp} {Q : VK} {v : V} {i j : Int} {n : Nat} {ta tb te : TE} {r : R2} {D : Ends} {t u : TS} {tt uu : TT} {QB : Bool → Hp → Prop}
theorem s_var (h : σ[n]? = some (some v)) (q : Q v H) : tVar n σ H Q := ⟨v, h, q⟩
theorem s_c (q : Q v H) : tC v σ H Q := q
theorem s_op (q : ta σ H fun x H1 => tb σ H1 fun y H2 => r x y H2 Q) : tOp r ta tb σ H Q := q
theorem s_I0 {g : Int → Int → V} (q : Q (g i j) H) : rI0 g (.int i) (.int j) H Q := ⟨i, j, rfl, rfl, q⟩
theorem s_I {C : Int → Int → Prop} {g : Int → Int → V} (h : C i j) (q : Q (g i j) H) : rI C g (.int i) (.int j) H Q := ⟨i, j, rfl, rfl, h, q⟩
theorem s_un {f : V → Hp → VK → Prop} (q : ta σ H fun x H1 => f x H1 Q) : tUn f ta σ H Q := q
theorem s_U {g : Int → V} (q : Q (g i) H) : rU g (.int i) H Q := ⟨i, rfl, q⟩
theorem s_eqI (q : Q (.bl (decide (i = j))) H) : rEq (.int i) (.int j) H Q := ⟨rfl, by have e : decide (V.int i = V.int j) = decide (i = j) := by simp
                                                                                       rw [e]; exact q⟩
theorem s_neI (q : Q (.bl (!decide (i = j))) H) : rNe (.int i) (.int j) H Q := ⟨rfl, by have e : decide (V.int i = V.int j) = decide (i = j) := by simp
                                                                                        rw [e]; exact q⟩
theorem s_test (q : te σ H fun x H' => ∃ k, x = .bl k ∧ QB k H') : tTest te σ H QB := q
theorem s_B (q : te σ H fun x H' => ∃ k, x = .bl k ∧ QB k H') : tB te σ H QB := q
theorem s_bl {b : Bool} {P : Bool → Prop} (q : P b) : ∃ k, V.bl b = .bl k ∧ P k := ⟨b, rfl, q⟩
theorem s_seq (q : t { D with nx := u D } σ H) : tSeq t u D σ H := q
theorem s_sig {σ' : L2.St} (e : σ = σ') (q : t D σ' H) : t D σ H := e ▸ q
theorem s_asg {g : TG} (q : te σ H fun x H1 => g x σ H1 D.nx) : tAsg te g D σ H := q
theorem s_name {Q : L2.St → Hp → Prop} (q : Q (σ.set n (some v)) H) : gName n v σ H Q := q
theorem s_ret (q : te σ H D.rt) : tRet te D σ H := q
theorem s_drop (q : te σ H fun _ H1 => D.nx σ H1) : tDrop te D σ H := q
theorem s_next (q : D.nx σ H) : tNext D σ H := q
theorem s_ifS (q : tt σ H fun b H1 => if b = true then t D σ H1 else u D σ H1) : tIfS tt t u D σ H := q
theorem s_if (q : tt σ H fun c H1 => if c = true then ta σ H1 Q else tb σ H1 Q) : tIf tt ta tb σ H Q := q
theorem s_and (q : tt σ H fun c H1 => if c = true then uu σ H1 QB else QB false H1) : tAnd tt uu σ H QB := q
theorem s_or (q : tt σ H fun c H1 => if c = true then QB true H1 else uu σ H1 QB) : tOr tt uu σ H QB := q
theorem s_not (q : tt σ H fun c H1 => QB (!c) H1) : tNot tt σ H QB := q
theorem s_andV (q : ta σ H fun x H1 => ∃ c, x = .bl c ∧ if c = true then tb σ H1 Q else Q (.bl false) H1) : tAndV ta tb σ H Q := q
theorem s_orV (q : ta σ H fun x H1 => ∃ c, x = .bl c ∧ if c = true then Q (.bl true) H1 else tb σ H1 Q) : tOrV ta tb σ H Q := q
theorem s_aug {ti : TIp} (h : σ[n]? = some (some v)) (q : te σ H fun y H1 => ti v y H1 fun z H2 => D.nx (σ.set n (some z)) H2) : tAug n te ti D σ H := ⟨v, h, q⟩
theorem s_ipI {f : Int → Int → Int} (q : Q (.int (f i j)) H) : ipI f (.int i) (.int j) H Q := ⟨i, j, rfl, rfl, q⟩
theorem s_nil {Q : List V → Hp → Prop} (q : Q [] H) : tNil σ H Q := q
theorem s_cons {tr : TA} {Q : List V → Hp → Prop} (q : te σ H fun x H1 => tr σ H1 fun xs H2 => Q (x :: xs) H2) : tCons te tr σ H Q := q
theorem s_call {sp : Sp} {dvs : List V} {E : XK} {t : TA} (q : t σ H fun vs H1 => sp (vs ++ dvs) H1 Q E) : tCall sp dvs E t σ H Q := q
theorem s_call0 {sp : Sp} {E : XK} {t : TA} (q : t σ H fun vs H1 => sp vs H1 Q E) : tCall sp [] E t σ H Q := by
  unfold tCall
  simp only [List.append_nil]
  exact q
theorem s_CB {r : List V → Hp → VK → Prop} {t : TA} (q : t σ H fun vs H1 => r vs H1 Q) : tCB r t σ H Q := q
def nwL (xs : List V) (H : Hp) (Q : VK) : Prop := xs.length ≤ sizeLine ∧ ∀ p, H p = none → Q (.ref p) (upd H p (.lst xs))
def nwT (xs : List V) (H : Hp) (Q : VK) : Prop := xs.length ≤ sizeLine ∧ ∀ p, H p = none → Q (.ref p) (upd H p (.tup xs))
theorem s_lst {t : TA} (q : t σ H fun xs H1 => nwL xs H1 Q) : tLst t σ H Q := q
theorem s_tup {t : TA} (q : t σ H fun xs H1 => nwT xs H1 Q) : tTup t σ H Q := q
theorem s_sl {r : V → Option Int → Option Int → Hp → VK → Prop} {tl th : TO} (q : te σ H fun x H1 => tl σ H1 fun l H2 => th σ H2 fun u H3 => r x l u H3 Q) : tSl r te tl th σ H Q := q
theorem s_part {Q : Option Int → Hp → Prop} (q : te σ H fun x H1 => ∃ i, x = .int i ∧ Q (some i) H1) : tPart te σ H Q := q
theorem s_nopart {Q : Option Int → Hp → Prop} (q : Q none H) : tNoPart σ H Q := q
theorem s_isI {P : Int → Prop} (q : P i) : ∃ k, V.int i = .int k ∧ P k := ⟨i, rfl, q⟩
/-- new objects -/
theorem n_lst {d : Option Addr} {H0 : Hp} {G : List (Addr × HO)} {xs : List V} (k : Kn d H0 G H) (hz : xs.length ≤ 1000000) (q : ∀ p H', Kn d H0 ((p, .lst xs) :: G) H' → Q (.ref p) H') :
    nwL xs H Q := ⟨Nat.le_trans hz (by decide), fun p hp => q p _ (k.new hp)⟩
theorem n_tup {d : Option Addr} {H0 : Hp} {G : List (Addr × HO)} {xs : List V} (k : Kn d H0 G H) (hz : xs.length ≤ 1000000) (q : ∀ p H', Kn d H0 ((p, .tup xs) :: G) H' → Q (.ref p) H') :
    nwT xs H Q := ⟨Nat.le_trans hz (by decide), fun p hp => q p _ (k.new hp)⟩
/-- known subscripts, lengths -/
theorem s_ixL {a : Addr} {xs : List V} (h : SqL K H a xs) (e : atI xs i = some v) (q : Q v H) : rIxL K (.ref a) (.int i) H Q := ⟨a, xs, i, v, rfl, rfl, h, e, q⟩
theorem s_ixT {a : Addr} {xs : List V} (h : SqT K H a xs) (e : atI xs i = some v) (q : Q v H) : rIxT K (.ref a) (.int i) H Q := ⟨a, xs, i, v, rfl, rfl, h, e, q⟩
theorem ite_no {c : Bool} {A B : Prop} (h : c = false) (b : B) : if c = true then A else B := by rw [h]; exact iteF b
theorem ite_yes {c : Bool} {A B : Prop} (h : c = true) (a : A) : if c = true then A else B := by rw [h]; exact iteT a
theorem ite_d {p : Prop} [Decidable p] {A B : Prop} (h1 : p → A) (h2 : ¬ p → B) : if decide p = true then A else B := by
  by_cases h : p
  · rw [if_pos (decide_eq_true h)]; exact h1 h
  · rw [if_neg (by simp [h])]; exact h2 h
end

/-! ### the built-ins' readings by name -/
def rIntC : List V → Hp → VK → Prop := fun xs H Q => (∃ i, xs = [.int i] ∧ Q (.int i) H) ∨ ∃ k, xs = [.bl k] ∧ Q (.int (if k then 1 else 0)) H
def rAbsC : List V → Hp → VK → Prop := fun xs H Q => ∃ i, xs = [.int i] ∧ Q (.int (if i < 0 then -i else i)) H
def rLenC (K : PySem.W.Frag) : List V → Hp → VK → Prop := fun xs H Q => ∃ p ys, xs = [.ref p] ∧ (SqL K H p ys ∨ SqT K H p ys) ∧ Q (.int ys.length) H
def rTupleC (K : PySem.W.Frag) : List V → Hp → VK → Prop := fun xs H Q => ∃ p ys, xs = [.ref p] ∧ ((SqL K H p ys ∧ ∀ l, H l = none → Q (.ref l) (upd H l (.tup ys))) ∨ (SqT K H p ys ∧ Q (.ref p) H))
def rListC (K : PySem.W.Frag) : List V → Hp → VK → Prop := fun xs H Q => ∃ p ys, xs = [.ref p] ∧ (SqL K H p ys ∨ SqT K H p ys) ∧ ∀ l, H l = none → Q (.ref l) (upd H l (.lst ys))
section
variable {X : Cx}
theorem kIxL {K : PySem.W.Frag} (h : X.K = K := by rfl) : IxR X (rIxL K) := by subst h; exact ix_list
theorem kIxT {K : PySem.W.Frag} (h : X.K = K := by rfl) : IxR X (rIxT K) := by subst h; exact ix_tup
theorem kLen {K : PySem.W.Frag} (h : X.K = K := by rfl) : CallR X (.builtin "len") (rLenC K) := by subst h; exact call_len_seq
theorem kList {K : PySem.W.Frag} (h : X.K = K := by rfl) : CallR X (.type "list") (rListC K) := by subst h; exact call_list_of
theorem kTuple {K : PySem.W.Frag} (h : X.K = K := by rfl) : CallR X (.type "tuple") (rTupleC K) := by subst h; exact call_tuple_of
theorem kSlL {K : PySem.W.Frag} (h : X.K = K := by rfl) : SlR X (rSlL K) := by subst h; exact sl_list
theorem kSlT {K : PySem.W.Frag} (h : X.K = K := by rfl) : SlR X (rSlT K) := by subst h; exact sl_tup
theorem kIn {K : PySem.W.Frag} (h : X.K = K := by rfl) : OpR X (compareOp .In) (rIn K false) := by subst h; exact op_in_seq
theorem kNotIn {K : PySem.W.Frag} (h : X.K = K := by rfl) : OpR X (compareOp .NotIn) (rIn K true) := by subst h; exact op_notIn_seq
theorem kEqD {K : PySem.W.Frag} (hu : X.A.units + 64 < cLine) (h : X.K = K := by rfl) : OpR X (compareOp .Eq) (rEqD K) := by subst h; exact op_eqD hu
theorem kNeD {K : PySem.W.Frag} (hu : X.A.units + 64 < cLine) (h : X.K = K := by rfl) : OpR X (compareOp .NotEq) (rNeD K) := by subst h; exact op_neD hu
theorem kSum {K : PySem.W.Frag} (hc : X.calm = true) (h : X.K = K := by rfl) : CallR X (.builtin "sum") (rSum K) := by subst h; exact cr_sum hc
theorem kMax {K : PySem.W.Frag} (hc : X.calm = true) (h : X.K = K := by rfl) : CallR X (.builtin "max") (rMax K) := by subst h; exact cr_max hc
theorem kMin {K : PySem.W.Frag} (hc : X.calm = true) (h : X.K = K := by rfl) : CallR X (.builtin "min") (rMin K) := by subst h; exact cr_min hc
theorem kAny {K : PySem.W.Frag} (hc : X.calm = true) (h : X.K = K := by rfl) : CallR X (.builtin "any") (rAny K) := by subst h; exact cr_any hc
theorem kAll {K : PySem.W.Frag} (hc : X.calm = true) (h : X.K = K := by rfl) : CallR X (.builtin "all") (rAll K) := by subst h; exact cr_all hc
theorem kCatT {K : PySem.W.Frag} (h : X.K = K := by rfl) : OpR X (binaryOp .Add) (rCatT K) := by subst h; exact op_catT
theorem kSortedI {K : PySem.W.Frag} (h : X.K = K := by rfl) : CallR X (.builtin "sorted") (rSortedI K) := by subst h; exact cr_sortedI
theorem pi_listK {K : PySem.W.Frag} {tg l : Expr} {tl : TE} (hl : PE X l tl) (h : X.K = K := by rfl) : PI X tg l (iList K tl) := by subst h; exact pi_list hl
theorem pi_tupK {K : PySem.W.Frag} {tg l : Expr} {tl : TE} (hl : PE X l tl) (h : X.K = K := by rfl) : PI X tg l (iTup K tl) := by subst h; exact pi_tup hl
theorem pe_bm0K {K : PySem.W.Frag} {o : Expr} {to : TE} {name : Str} {apos cpos : Pos} {T id : String} {r : V → List V → Hp → VK → Prop} (pa : PlainAttrs T) (slot : Slot T name id) (hty : typeOf (.builtin id) = pure (.type "method_descriptor")) (hm : MtR X id r) (ho : PE X o to)
    (hbase : attributeBase o name X.env (eval o X.env) = eval o X.env := by rfl) (hline : (apos.endLine == cpos.line) = true := by rfl) (h : X.K = K := by rfl) : PE X (.Call (.Attribute o name apos) [] [] cpos) (tBM0 K T r to) := by
  subst h; exact pe_bm0 pa slot hty hm ho hbase hline
theorem pe_bmK {K : PySem.W.Frag} {o e : Expr} {es : List Expr} {to : TE} {t : TA} {name : Str} {apos cpos : Pos} {T id : String} {r : V → List V → Hp → VK → Prop} (pa : PlainAttrs T) (slot : Slot T name id) (hty : typeOf (.builtin id) = pure (.type "method_descriptor")) (hm : MtR X id r) (ho : PE X o to) (ha : PA X (e :: es) t)
    (hbase : attributeBase o name X.env (eval o X.env) = eval o X.env := by rfl)
    (hfew : ((backTo cpos (starEach (e :: es) X.env)).all (fun x => !x.1) && (backToKw cpos (keywordEach [] X.env)).all (fun x => x.1.isSome)
      && decide ((e :: es).length + ([] : List Keyword).length + (if ([] : List Keyword).isEmpty then 0 else 1) < 30)) = true := by rfl)
    (hline : (apos.endLine == cpos.line) = true := by rfl) (hs : starEach (e :: es) X.env = (false, eval e X.env) :: starEach es X.env := by rfl) (hplain : (backTo cpos (starEach es X.env)).any (·.1) = false := by rfl) (h : X.K = K := by rfl) :
    PE X (.Call (.Attribute o name apos) (e :: es) [] cpos) (tBM K T r to t) := by
  subst h; exact pe_bm pa slot hty hm ho ha hbase hfew hline hs hplain
theorem cInt : CallR X (.type "int") rIntC := call_int1
theorem cAbs : CallR X (.builtin "abs") rAbsC := call_abs
theorem cLen : CallR X (.builtin "len") (rLenC X.K) := call_len_seq
theorem cList : CallR X (.type "list") (rListC X.K) := call_list_of
end
section
variable {K : PySem.W.Frag} {H H0 : Hp} {Q : VK} {i : Int} {d : Option Addr} {G : List (Addr × HO)} {p : Addr} {xs ys : List V} {v : V} {σ : L2.St} {te ta : TE} {t : TA}
theorem s_int (q : Q (.int i) H) : rIntC [.int i] H Q := .inl ⟨i, rfl, q⟩
theorem s_intB {b : Bool} (q : Q (.int (if b then 1 else 0)) H) : rIntC [.bl b] H Q := .inr ⟨b, rfl, q⟩
theorem s_abs (q : Q (.int (if i < 0 then -i else i)) H) : rAbsC [.int i] H Q := ⟨i, rfl, q⟩
theorem s_len (h : SqL K H p xs) (q : Q (.int xs.length) H) : rLenC K [.ref p] H Q := ⟨p, xs, rfl, .inl h, q⟩
theorem s_lenT (h : SqT K H p xs) (q : Q (.int xs.length) H) : rLenC K [.ref p] H Q := ⟨p, xs, rfl, .inr h, q⟩
theorem s_list (k : Kn d H0 G H) (h : SqL K H p xs) (q : ∀ p H', Kn d H0 ((p, .lst xs) :: G) H' → Q (.ref p) H') : rListC K [.ref p] H Q := ⟨p, xs, rfl, .inl h, fun l hl => q l _ (k.new hl)⟩
theorem s_BM {T : String} {r : V → List V → Hp → VK → Prop} (q : te σ H fun x H1 => tyV K T x H1 ∧ t σ H1 fun xs H2 => r x xs H2 Q) : tBM K T r te t σ H Q := q
theorem s_BM0 {T : String} {r : V → List V → Hp → VK → Prop} (q : te σ H fun x H1 => tyV K T x H1 ∧ r x [] H1 Q) : tBM0 K T r te σ H Q := q
theorem n_ty {P : Prop} (h : SqL K H p xs) (q : P) : tyV K "list" (.ref p) H ∧ P := ⟨.inl ⟨rfl, xs, h⟩, q⟩
theorem a_append (k : Kn d H0 G H) (n : Nat) (h : G[n]? = some (p, .lst xs)) (hz : xs.length < 1000000) (q : ∀ H', Kn d H0 (G.set n (p, .lst (xs ++ [v]))) H' → Q .non H') : rAppend (.ref p) [v] H Q :=
  ⟨p, xs, v, rfl, rfl, k.get n h, Nat.lt_of_lt_of_le hz (by decide), q _ (k.put n h)⟩
theorem a_reverse (k : Kn d H0 G H) (n : Nat) (h : G[n]? = some (p, .lst xs)) (q : ∀ H', Kn d H0 (G.set n (p, .lst xs.reverse)) H' → Q .non H') : rReverse (.ref p) [] H Q :=
  ⟨p, xs, rfl, rfl, k.get n h, q _ (k.put n h)⟩
theorem s_cat {q : Addr} (k : Kn d H0 G H) (h1 : H p = some (.lst xs)) (h2 : H q = some (.lst ys)) (hz : xs.length + ys.length ≤ 1000000) (c : ∀ l H', Kn d H0 ((l, .lst (xs ++ ys)) :: G) H' → Q (.ref l) H') : rCat (.ref p) (.ref q) H Q :=
  ⟨p, q, xs, ys, rfl, rfl, h1, h2, Nat.le_trans hz (by decide), fun l hl => c l _ (k.new hl)⟩
theorem s_slL {lo hi : Option Int} (k : Kn d H0 G H) (h : SqL K H p xs) (c : ∀ l H', Kn d H0 ((l, .lst (cutV xs lo hi)) :: G) H' → Q (.ref l) H') : rSlL K (.ref p) lo hi H Q := ⟨p, xs, rfl, h, fun l hl => c l _ (k.new hl)⟩
theorem kn_sq (k : Kn d H0 G H) (n : Nat) (h : G[n]? = some (p, .lst xs)) : SqL K H p xs := .inl (.inl (k.get n h))
theorem kn_tq (k : Kn d H0 G H) (n : Nat) (h : G[n]? = some (p, .tup xs)) : SqT K H p xs := .inl (.inl (k.get n h))
end
section
variable {K : PySem.W.Frag} {H : Hp} {Q : VK} {σ : L2.St} {ta : TA} {tl te tb' : TE} {tb : TS} {g : TG} {D : Ends} {n : Nat} {tt : TT}
def FR (n : Nat) (tb : TS) (D : Ends) (σ : L2.St) (vs : List V) (H1 : Hp) : Prop := ∃ j : Int, vs = [.int j] ∧ -(2 ^ 62) ≤ j ∧ j < 2 ^ 62 ∧ (fun J H1 => ∃ W : Nat → Nat → L2.St → Hp → Prop, (∃ m, W 0 m σ H1) ∧ ∀ i m σ H, W i m σ H →
  (It.stop J i H ∧ D.nx σ H) ∨ (It.go J i H ∧ ∃ N : L2.St → Hp → Prop, (∀ σ' H', N σ' H' → ∃ m', m' < m ∧ W (i + 1) m' σ' H') ∧ ∀ x H', It.yld J i H x H' → gName n x σ H' fun σ2 H2 => tb { D with nx := N, ct := N, bk := D.nx } σ2 H2)) (Itr 0 j.toNat) H1
theorem s_forR (q : ta σ H fun vs H1 => FR n tb D σ vs H1) : tFor (iRng1 ta) (gName n) tb D σ H := q
theorem n_for {j : Int} (h0 : -1000000 ≤ j) (h1 : j ≤ 1000000) (Pv : Nat → L2.St → Hp → Prop) (p0 : Pv 0 σ H) (ps : ∀ i σ H, i < j.toNat → Pv i σ H → tb { D with nx := Pv (i + 1), ct := Pv (i + 1), bk := D.nx } (σ.set n (some (.int i))) H)
    (pd : ∀ σ H, Pv j.toNat σ H → D.nx σ H) : FR n tb D σ [.int j] H := by
  refine ⟨j, rfl, by omega, by omega, for_range (lo := 0) (n := j.toNat) Pv p0 (fun i σ' H' hi p => ?_) pd⟩
  have e : (0 : Int) + (i : Int) = (i : Int) := Int.zero_add _
  rw [e]
  exact ps i σ' H' hi p
def FR2 (n : Nat) (tb : TS) (D : Ends) (σ : L2.St) (vs : List V) (H1 : Hp) : Prop := ∃ i j : Int, vs = [.int i, .int j] ∧ (-(2 ^ 62) ≤ i ∧ i < 2 ^ 62 ∧ -(2 ^ 62) ≤ j ∧ j < 2 ^ 62) ∧ (fun J H1 => ∃ W : Nat → Nat → L2.St → Hp → Prop, (∃ m, W 0 m σ H1) ∧ ∀ i m σ H, W i m σ H →
  (It.stop J i H ∧ D.nx σ H) ∨ (It.go J i H ∧ ∃ N : L2.St → Hp → Prop, (∀ σ' H', N σ' H' → ∃ m', m' < m ∧ W (i + 1) m' σ' H') ∧ ∀ x H', It.yld J i H x H' → gName n x σ H' fun σ2 H2 => tb { D with nx := N, ct := N, bk := D.nx } σ2 H2)) (Itr i (j - i).toNat) H1
theorem s_forR2 (q : ta σ H fun vs H1 => FR2 n tb D σ vs H1) : tFor (iRng2 ta) (gName n) tb D σ H := q
theorem n_for2 {lo j : Int} (h0 : -1000000 ≤ lo) (h0' : lo ≤ 1000000) (h1 : -1000000 ≤ j) (h1' : j ≤ 1000000) (Pv : Nat → L2.St → Hp → Prop) (p0 : Pv 0 σ H) (ps : ∀ i σ H, i < (j - lo).toNat → Pv i σ H → tb { D with nx := Pv (i + 1), ct := Pv (i + 1), bk := D.nx } (σ.set n (some (.int (lo + i)))) H)
    (pd : ∀ σ H, Pv (j - lo).toNat σ H → D.nx σ H) : FR2 n tb D σ [.int lo, .int j] H :=
  ⟨lo, j, rfl, by omega, for_range (lo := lo) (n := (j - lo).toNat) Pv p0 (fun i σ' H' hi p => ps i σ' H' hi p) pd⟩
def FL (K : PySem.W.Frag) (g : TG) (tb : TS) (D : Ends) (σ : L2.St) (x : V) (H1 : Hp) : Prop := ∃ a, x = .ref a ∧ (∃ xs, SqL K H1 a xs) ∧ (fun J H1 => ∃ W : Nat → Nat → L2.St → Hp → Prop, (∃ m, W 0 m σ H1) ∧ ∀ i m σ H, W i m σ H →
  (It.stop J i H ∧ D.nx σ H) ∨ (It.go J i H ∧ ∃ N : L2.St → Hp → Prop, (∀ σ' H', N σ' H' → ∃ m', m' < m ∧ W (i + 1) m' σ' H') ∧ ∀ x H', It.yld J i H x H' → g x σ H' fun σ2 H2 => tb { D with nx := N, ct := N, bk := D.nx } σ2 H2)) (Itl K a) H1
theorem s_forL (q : tl σ H fun x H1 => FL K g tb D σ x H1) : tFor (iList K tl) g tb D σ H := q
theorem n_forL {a : Addr} {xs : List V} (h : SqL K H a xs) (Pv : Nat → L2.St → Hp → Prop) (p0 : Pv 0 σ H) (pl : ∀ i σ H, i ≤ xs.length → Pv i σ H → SqL K H a xs)
    (ps : ∀ i x σ H, xs[i]? = some x → Pv i σ H → g x σ H fun σ2 H2 => tb { D with nx := Pv (i + 1), ct := Pv (i + 1), bk := D.nx } σ2 H2) (pd : ∀ σ H, Pv xs.length σ H → D.nx σ H) : FL K g tb D σ (.ref a) H :=
  ⟨a, rfl, ⟨xs, h⟩, for_list (xs := xs) Pv p0 pl ps pd⟩
def FT (K : PySem.W.Frag) (g : TG) (tb : TS) (D : Ends) (σ : L2.St) (x : V) (H1 : Hp) : Prop := ∃ a, x = .ref a ∧ (∃ xs, SqT K H1 a xs) ∧ (fun J H1 => ∃ W : Nat → Nat → L2.St → Hp → Prop, (∃ m, W 0 m σ H1) ∧ ∀ i m σ H, W i m σ H →
  (It.stop J i H ∧ D.nx σ H) ∨ (It.go J i H ∧ ∃ N : L2.St → Hp → Prop, (∀ σ' H', N σ' H' → ∃ m', m' < m ∧ W (i + 1) m' σ' H') ∧ ∀ x H', It.yld J i H x H' → g x σ H' fun σ2 H2 => tb { D with nx := N, ct := N, bk := D.nx } σ2 H2)) (Itt K a) H1
theorem s_forT (q : tl σ H fun x H1 => FT K g tb D σ x H1) : tFor (iTup K tl) g tb D σ H := q
theorem n_forT {a : Addr} {xs : List V} (h : SqT K H a xs) (Pv : Nat → L2.St → Hp → Prop) (p0 : Pv 0 σ H) (pl : ∀ i σ H, i ≤ xs.length → Pv i σ H → SqT K H a xs)
    (ps : ∀ i x σ H, xs[i]? = some x → Pv i σ H → g x σ H fun σ2 H2 => tb { D with nx := Pv (i + 1), ct := Pv (i + 1), bk := D.nx } σ2 H2) (pd : ∀ σ H, Pv xs.length σ H → D.nx σ H) : FT K g tb D σ (.ref a) H :=
  ⟨a, rfl, ⟨xs, h⟩, for_tup (xs := xs) Pv p0 pl ps pd⟩
theorem s_ifJ {R : V → Hp → Prop} (h : ∀ Q' : VK, (∀ v H', R v H' → Q' v H') → tIf tt te tb' σ H Q') (q : ∀ v H', R v H' → Q v H') : tIf tt te tb' σ H Q := h Q q
end
theorem cmul_b {i : Int} {b : Bool} : CMul i (if b = true then 1 else 0) := .inr (by cases b <;> decide)
section
variable {K : PySem.W.Frag} {H H0 : Hp} {Q : VK} {QS : L2.St → Hp → Prop} {σ : L2.St} {te to tl th : TE} {ta : TA} {tt : TT} {d : Option Addr} {G : List (Addr × HO)} {p q : Addr} {xs ys : List V} {v : V} {n j : Nat} {t : TGs} {g : TG} {us : TGs} {i : Int}
theorem wipe1 {σ : L2.St} {j : Nat} (x : Option V) : wipe ((wipe σ [j]).set j x) [j] = wipe σ [j] := by
  show ((σ.set j none).set j x).set j none = σ.set j none
  rw [List.set_set, List.set_set]
/-- [e for x in range(n) if t] -/
def CR (j : Nat) (tt : TT) (te : TE) (σ : L2.St) (Q : VK) (vs : List V) (H1 : Hp) : Prop := ∃ n : Int, vs = [.int n] ∧ -(2 ^ 62) ≤ n ∧ n < 2 ^ 62 ∧ (fun J H1 => ∀ D, H1 D = none → ∃ W : Nat → Nat → Hp → Prop, (∃ m, W 0 m (upd H1 D (.lst []))) ∧ ∀ i m H, W i m H →
  (It.stop J i H ∧ Q (.ref D) H) ∨ (It.go J i H ∧ ∃ Nx : Hp → Prop, (∀ H', Nx H' → ∃ m', m' < m ∧ W (i + 1) m' H') ∧ ∀ x H', It.yld J i H x H' → gName j x (wipe σ [j]) H' fun σ2 H2 => wipe σ2 [j] = wipe σ [j] ∧ tt σ2 H2 fun b H3 =>
    if b = true then te σ2 H3 fun y H4 => ∃ acc, H4 D = some (.lst acc) ∧ acc.length < sizeLine ∧ Nx (upd H4 D (.lst (acc ++ [y]))) else Nx H3)) (Itr 0 n.toNat) H1
theorem s_lcR (q : ta σ H fun vs H1 => CR j tt te σ Q vs H1) : tLc (iRng1 ta) (gName j) tt te [j] σ H Q := q
/-- no test: the list so far, and what is known of it -/
theorem n_lcR {n : Int} (h0 : 0 ≤ n) (h1 : n ≤ 100000) (k : Kn d H0 G H) (R : Nat → List V → Prop) (r0 : R 0 [])
    (rs : ∀ i acc D H2, i < n.toNat → R i acc → Kn d H0 ((D, .lst acc) :: G) H2 → ∀ Q' : VK, (∀ y H3, R (i + 1) (acc ++ [y]) → Kn d H0 ((D, .lst acc) :: G) H3 → Q' y H3) → te ((wipe σ [j]).set j (some (.int i))) H2 Q')
    (rl : ∀ i acc, R i acc → acc.length ≤ i) (rd : ∀ acc D H2, R n.toNat acc → Kn d H0 ((D, .lst acc) :: G) H2 → Q (.ref D) H2) : CR j tYes te σ Q [.int n] H := by
  refine ⟨n, rfl, by omega, by omega, fun D hD => ?_⟩
  refine lc_range (lo := 0) (n := n.toNat) (fun i H2 => ∃ acc, R i acc ∧ Kn d H0 ((D, .lst acc) :: G) H2) ⟨[], r0, k.new hD⟩ (fun i H2 hi ⟨acc, ra, ka⟩ => ?_) (fun H2 ⟨acc, ra, ka⟩ => rd acc D H2 ra ka)
  have e0 : (0 : Int) + (i : Int) = (i : Int) := Int.zero_add _
  rw [e0]
  refine ⟨wipe1 _, ?_⟩
  show te ((wipe σ [j]).set j (some (.int i))) H2 _
  refine rs i acc D H2 hi ra ka _ fun y H3 r1 k1 => ?_
  exact ⟨acc, k1.get 0 rfl, Nat.lt_of_le_of_lt (rl i acc ra) (Nat.lt_of_lt_of_le (show i < 100001 by omega) (by decide)), _, r1, k1.put 0 rfl⟩
/-- [e for x in xs if t] -/
def CL (K : PySem.W.Frag) (g : TG) (vs : List Nat) (tt : TT) (te : TE) (σ : L2.St) (Q : VK) (x : V) (H1 : Hp) : Prop := ∃ a, x = .ref a ∧ (∃ xs, SqL K H1 a xs) ∧ (fun J H1 => ∀ D, H1 D = none → ∃ W : Nat → Nat → Hp → Prop, (∃ m, W 0 m (upd H1 D (.lst []))) ∧ ∀ i m H, W i m H →
  (It.stop J i H ∧ Q (.ref D) H) ∨ (It.go J i H ∧ ∃ Nx : Hp → Prop, (∀ H', Nx H' → ∃ m', m' < m ∧ W (i + 1) m' H') ∧ ∀ x H', It.yld J i H x H' → g x (wipe σ vs) H' fun σ2 H2 => wipe σ2 vs = wipe σ vs ∧ tt σ2 H2 fun b H3 =>
    if b = true then te σ2 H3 fun y H4 => ∃ acc, H4 D = some (.lst acc) ∧ acc.length < sizeLine ∧ Nx (upd H4 D (.lst (acc ++ [y]))) else Nx H3)) (Itl K a) H1
theorem s_lcL {vs : List Nat} (q : te σ H fun x H1 => CL K g vs tt tl σ Q x H1) : tLc (iList K te) g tt tl vs σ H Q := q
/-- over a list, with a test or without; R: what is known of the list so far -/
theorem n_lcL {a : Addr} {xs : List V} (hx : SqL K H a xs) (h1 : xs.length ≤ 100000) (k : Kn d H0 G H) (hst : ∀ D acc H2, Kn d H0 ((D, .lst acc) :: G) H2 → SqL K H2 a xs) (R : Nat → List V → Prop) (r0 : R 0 [])
    (rs : ∀ i x acc D H2, xs[i]? = some x → R i acc → Kn d H0 ((D, .lst acc) :: G) H2 → ∀ Q' : Bool → Hp → Prop, (∀ b H3, Kn d H0 ((D, .lst acc) :: G) H3 → (b = false → R (i + 1) acc) →
      (b = true → ∀ Q'' : VK, (∀ y H4, R (i + 1) (acc ++ [y]) → Kn d H0 ((D, .lst acc) :: G) H4 → Q'' y H4) → te ((wipe σ [j]).set j (some x)) H3 Q'') → Q' b H3) → tt ((wipe σ [j]).set j (some x)) H2 Q')
    (rl : ∀ i acc, R i acc → acc.length ≤ i) (rd : ∀ acc D H2, R xs.length acc → Kn d H0 ((D, .lst acc) :: G) H2 → Q (.ref D) H2) : CL K (gName j) [j] tt te σ Q (.ref a) H := by
  refine ⟨a, rfl, ⟨xs, hx⟩, fun D hD => ?_⟩
  refine lc_list (xs := xs) (fun i H2 => ∃ acc, R i acc ∧ Kn d H0 ((D, .lst acc) :: G) H2) ⟨[], r0, k.new hD⟩ (fun i H2 hi ⟨acc, ra, ka⟩ => hst D acc H2 ka) (fun i x H2 hi ⟨acc, ra, ka⟩ => ?_) (fun H2 ⟨acc, ra, ka⟩ => rd acc D H2 ra ka)
  have hi' : i < xs.length := (List.getElem?_eq_some_iff.mp hi).1
  refine ⟨wipe1 _, ?_⟩
  show tt ((wipe σ [j]).set j (some x)) H2 _
  refine rs i x acc D H2 hi ra ka _ fun b H3 k3 hf ht => ?_
  cases b with
  | false => exact iteF ⟨acc, hf rfl, k3⟩
  | true =>
    refine iteT (ht rfl _ fun y H4 r1 k1 => ?_)
    exact ⟨acc, k1.get 0 rfl, Nat.lt_of_le_of_lt (rl i acc ra) (Nat.lt_of_lt_of_le (show i < 100001 by omega) (by decide)), _, r1, k1.put 0 rfl⟩
theorem s_gTup (h : SqT K H p xs) (hl : xs.length = n) (q : t xs σ H QS) : gTup K n t (.ref p) σ H QS := ⟨p, xs, rfl, h, hl, q⟩
theorem s_gLst (h : SqL K H p xs) (hl : xs.length = n) (q : t xs σ H QS) : gLst K n t (.ref p) σ H QS := ⟨p, xs, rfl, h, hl, q⟩
theorem s_gCons (q : g v σ H fun σ' H' => us xs σ' H' QS) : gCons g us (v :: xs) σ H QS := ⟨v, xs, rfl, q⟩
theorem s_gNil (q : QS σ H) : gNil [] σ H QS := ⟨rfl, q⟩
theorem s_gSub {ts : TSet} (q : to σ H fun o H1 => tl σ H1 fun i H2 => ts o i v H2 fun H3 => QS σ H3) : gSub to tl ts v σ H QS := q
theorem a_set {QH : Hp → Prop} (k : Kn d H0 G H) (n : Nat) (h : G[n]? = some (p, .lst xs)) (hi : ixN xs.length i = some j) (q : ∀ H', Kn d H0 (G.set n (p, .lst (xs.set j v))) H' → QH H') : rSetL (.ref p) (.int i) v H QH :=
  ⟨p, xs, i, j, rfl, rfl, k.get n h, hi, q _ (k.put n h)⟩
theorem ixN_nat {n j : Nat} (h : j < n) : ixN n (j : Int) = some j := by
  unfold ixN
  rw [if_pos (Int.natCast_nonneg j), if_pos (by omega)]; rfl
theorem ixN_of {n j : Nat} {i : Int} (e : i = (j : Int)) (h : j < n) : ixN n i = some j := by rw [e]; exact ixN_nat h
theorem s_par {i j : Nat} {D : Ends} (q : ta σ H fun vs H1 => ∃ v w, vs = [v, w] ∧ D.nx ((σ.set i (some v)).set j (some w)) H1) : tPar i j ta D σ H := q
theorem s_vw {P : V → V → Prop} {a b : V} (q : P a b) : ∃ v w, [a, b] = [v, w] ∧ P v w := ⟨a, b, rfl, q⟩
/-- a slice of a list is replaced by another list -/
def gSlc (to tl th : TE) : TG := fun v σ H Q => to σ H fun o H1 => tl σ H1 fun a H2 => th σ H2 fun c H3 => ∃ l b xs ys i j, o = .ref l ∧ v = .ref b ∧ a = .int i ∧ c = .int j ∧
  H3 l = some (.lst xs) ∧ H3 b = some (.lst ys) ∧ l ≠ b ∧ 0 ≤ i ∧ i ≤ j ∧ j ≤ xs.length ∧ xs.length + ys.length ≤ sizeLine ∧ Q σ (upd H3 l (.lst (xs.take i.toNat ++ ys ++ xs.drop j.toNat)))
theorem pg_slc {X : Cx} {o lo hi : Expr} {to tl th : TE} {pos p2 : Pos} (ho : PE X o to) (hl : PE X lo tl) (hh : PE X hi th)
    (ha : ∀ v, assign (.Subscript o (.Slice (some lo) (some hi) none p2) pos) X.env v = (do
      let ov ← holding [v] (eval o X.env)
      let iv ← holding [v, ov] (eval (.Slice (some lo) (some hi) none p2) X.env)
      standAt pos
      holding [v, ov, iv] (setItem ov iv v)
      release [iv, v, ov] []) := by intro _; rfl) : PG X (.Subscript o (.Slice (some lo) (some hi) none p2) pos) (gSlc to tl th) := by
  refine ⟨fun pins s σ H v u Q I r h => ?_⟩
  rw [ha]
  refine wpAny_bind (wpAny_holding (thn (ho.run pins s σ H _ I h) fun ov s1 ⟨x, H1, I1, r1, q1⟩ => ?_))
  refine wpAny_bind (wpAny_holding (wpAny_Slice ?_))
  rw [evalPart_some]
  refine thn (hl.run pins s1 σ H1 _ I1 q1) fun vl s2 ⟨a, H2, I2, ra, q2⟩ => ?_
  rw [evalPart_some]
  refine thn (hh.run pins s2 σ H2 _ I2 q2) fun vu s3 ⟨c, H3, I3, rc, q3⟩ => ?_
  rw [evalPart_none]
  refine wpAny_pure ?_
  obtain ⟨l, b, xs, ys, i, j, rfl, rfl, rfl, rfl, hH, hB, hne, h0, hij, hj, hz, q⟩ := q3
  cases r1
  cases r
  have I4 : Inv X pins σ H3 { s3 with heap := s3.heap.push { cls := .type "slice", data := .fields #[vl, vu, .none] } } := I3.kept (t' := s3.toks) fun b ob q => Heap.get?_push_of_some _ q
  refine wpAny_bind (wpAny_standAt (wpAny_bind (wpAny_holding (set_slice I4 hH hB hne (Heap.IsSliceOf.new ..) ra rc h0 hij hj hz fun s4 I5 => ?_))))
  exact wpAny_release ⟨σ, _, I5, q⟩
theorem s_slc {QS : L2.St → Hp → Prop} (q : to σ H fun o H1 => tl σ H1 fun a H2 => th σ H2 fun c H3 => ∃ l b xs ys i j, o = .ref l ∧ v = .ref b ∧ a = .int i ∧ c = .int j ∧
  H3 l = some (.lst xs) ∧ H3 b = some (.lst ys) ∧ l ≠ b ∧ 0 ≤ i ∧ i ≤ j ∧ j ≤ xs.length ∧ xs.length + ys.length ≤ sizeLine ∧ QS σ (upd H3 l (.lst (xs.take i.toNat ++ ys ++ xs.drop j.toNat)))) : gSlc to tl th v σ H QS := q
theorem s_ne_same {x y : V} (e : PyData) (hx : Dp K H x e) (hy : Dp K H y e) (sd : SeqAt.shaped e = true) (q : Q (.bl false) H) : rNeD K x y H Q :=
  ⟨e, e, hx, hy, sd, sd, by rw [PySem.SeqAt.eqv_refl e (SeqAt.canLay_of_shaped sd)]; exact q⟩
theorem s_eq_same {x y : V} (e : PyData) (hx : Dp K H x e) (hy : Dp K H y e) (sd : SeqAt.shaped e = true) (q : Q (.bl true) H) : rEqD K x y H Q :=
  ⟨e, e, hx, hy, sd, sd, by rw [PySem.SeqAt.eqv_refl e (SeqAt.canLay_of_shaped sd)]; exact q⟩
theorem dp_t2 {a b : Int} (h : SqT K H p [.int a, .int b]) : Dp K H (.ref p) (.tuple [.int a, .int b]) := .tup h (.cons (.int a) (.cons (.int b) .nil))
theorem s_sum {ns : List Int} (h : SqL K H p (ns.map V.int)) (q : Q (.int ns.sum) H) : rSum K [.ref p] H Q := ⟨p, ns, rfl, h, q⟩
theorem s_rep {k : Int} (kn : Kn d H0 G H) (h : H p = some (.lst xs)) (h0 : 0 ≤ k) (h1 : k ≤ 100000) (hz : xs.length ≤ 10) (c : ∀ l H', Kn d H0 ((l, .lst (List.replicate k.toNat xs).flatten) :: G) H' → Q (.ref l) H') : rRep (.ref p) (.int k) H Q :=
  ⟨p, k, xs, rfl, rfl, h, by omega, by omega, by
    have : xs.length * k.toNat ≤ 10 * 100000 := Nat.mul_le_mul hz (by omega)
    exact Nat.le_trans this (by decide), fun l hl => c l _ (kn.new hl)⟩
end
section
variable {X : Cx}
theorem pe_lcK {elt tg iter : Expr} {ifs : List Expr} {scope : Scope} {own : List (Str × Nat)} {pos : Pos} {wi : TI} {g : TG} {tt : TT} {te : TE} {vs : List Nat} (hv : own.map (·.2) = vs) (hc : X.calm = true) (hN : X.N.Nodup) (hi : PI X tg iter wi) (ok : BlkOk X.N X.env.scope scope own)
    (hg : ∀ (s : Shared) (H : Hp) (C : Addr) (cl : List (Str × Addr)) (fp : List Addr), PG (X.blk s H scope (compEnvC scope cl C X.env) fp) tg g) (ht : ∀ (s : Shared) (H : Hp) (C : Addr) (cl : List (Str × Addr)) (fp : List Addr), PTs (X.blk s H scope (compEnvC scope cl C X.env) fp) ifs tt)
    (he : ∀ (s : Shared) (H : Hp) (C : Addr) (cl : List (Str × Addr)) (fp : List Addr), PE (X.blk s H scope (compEnvC scope cl C X.env) fp) elt te) (hs : ∀ x, foldedSetIterable iter X.env x = pure x := by intro _; rfl) :
    PE X (.ListComp elt [⟨tg, iter, ifs, 0⟩] scope pos) (tLc wi g tt te vs) := by
  subst hv; exact pe_lc hc hN hi ok hg ht he hs
theorem ps_setLcK {i : Nat} {y : Str} {py : Pos} {elt tg iter : Expr} {ifs : List Expr} {scope : Scope} {own : List (Str × Nat)} {pos spos : Pos} {wi : TI} {g : TG} {tt : TT} {te : TE} {vs : List Nat} (hv : own.map (·.2) = vs) (hc : X.calm = true) (hN : X.N.Nodup) (hy : X.N[i]? = some y) (hyl : X.env.scope.names.lookup y = some .local)
    (hsw : swapsWith (.ListComp elt [⟨tg, iter, ifs, 0⟩] scope pos) (some (.Name y py)) spos.line X.env = pure true) (hi : PI X tg iter wi) (ok : BlkOk X.N X.env.scope scope own)
    (hg : ∀ (s : Shared) (H : Hp) (C : Addr) (cl : List (Str × Addr)) (fp : List Addr), PG (X.blk s H scope (compEnvC scope cl C X.env) fp) tg g) (ht : ∀ (s : Shared) (H : Hp) (C : Addr) (cl : List (Str × Addr)) (fp : List Addr), PTs (X.blk s H scope (compEnvC scope cl C X.env) fp) ifs tt)
    (he : ∀ (s : Shared) (H : Hp) (C : Addr) (cl : List (Str × Addr)) (fp : List Addr), PE (X.blk s H scope (compEnvC scope cl C X.env) fp) elt te) (hs : ∀ x, foldedSetIterable iter X.env x = pure x := by intro _; rfl) :
    PS X (.Assign [.Name y py] (.ListComp elt [⟨tg, iter, ifs, 0⟩] scope pos) spos) (tAsg (tLc wi g tt te vs) (gName i)) := by
  subst hv; exact ps_setLc hc hN hy hyl hsw hi ok hg ht he hs
end
section
variable {K : PySem.W.Frag} {H H0 : Hp} {QS : L2.St → Hp → Prop} {σ : L2.St} {d : Option Addr} {G : List (Addr × HO)} {l b : Addr} {xs ys : List V} {o u : HO} {i j : Nat} {x y : Int}
theorem Kn.ne (k : Kn d H0 G H) (i j : Nat) (h : G[i]? = some (l, o)) (h' : G[j]? = some (b, u)) (ij : i ≠ j) : l ≠ b := fun z => ij (nd_ix k.nd (x := l) (by rw [List.getElem?_map, h]; rfl) (by rw [List.getElem?_map, h', z]; rfl))
theorem Kn.sub (k : Kn d H0 G H) {G' : List (Addr × HO)} (s : G'.Sublist G) : Kn d H0 G' H :=
  ⟨k.keep, k.dk, k.dk0, k.nd.sublist (s.map _), fun e he => k.nw e (s.subset he), fun e he => k.at_ e (s.subset he)⟩
theorem a_slc (k : Kn d H0 G H) (n m : Nat) (h : G[n]? = some (l, .lst xs)) (h' : G[m]? = some (b, .lst ys)) (nm : n ≠ m) (ex : x = (i : Int)) (ey : y = (j : Int)) (hij : i ≤ j) (hj : j ≤ xs.length) (hz : xs.length + ys.length ≤ 1000000)
    (q : ∀ H', Kn d H0 (G.set n (l, .lst (xs.take i ++ ys ++ xs.drop j))) H' → QS σ H') :
    ∃ l' b' xs' ys' i' j', V.ref l = .ref l' ∧ V.ref b = .ref b' ∧ V.int x = .int i' ∧ V.int y = .int j' ∧ H l' = some (.lst xs') ∧ H b' = some (.lst ys') ∧ l' ≠ b' ∧ 0 ≤ i' ∧ i' ≤ j' ∧ j' ≤ xs'.length ∧ xs'.length + ys'.length ≤ sizeLine ∧
      QS σ (upd H l' (.lst (xs'.take i'.toNat ++ ys' ++ xs'.drop j'.toNat))) := by
  subst ex; subst ey
  exact ⟨l, b, xs, ys, i, j, rfl, rfl, rfl, rfl, k.get n h, k.get m h', k.ne n m h h' nm, by omega, by omega, by omega, Nat.le_trans hz (by decide), q _ (k.put n h)⟩
end
theorem small_len {n m : Nat} (h : Nat.ble n m = true) : n ≤ m := Nat.le_of_ble_eq_true h

end Tm

namespace Tm
open PySem PySem.Spec PyProof.Rows L2
/-! ### the steps as one word -/
/-- an object of the body's own: H p = some _ | a list | a tuple -/
local macro_rules | `(tactic| walk_at "own") => `(tactic| ((rename Kn _ _ _ _ => kk); first
  | exact kk.get 0 rfl | exact kk.get 1 rfl | exact kk.get 2 rfl | exact kk.get 3 rfl | exact kk.get 4 rfl | exact kk.get 5 rfl | exact kk.get 6 rfl | exact kk.get 7 rfl | exact kk.get 8 rfl | exact kk.get 9 rfl | exact kk.get 10 rfl | exact kk.get 11 rfl | exact kk.get 12 rfl | exact kk.get 13 rfl | exact kk.get 14 rfl | exact kk.get 15 rfl | exact kk.get 16 rfl | exact kk.get 17 rfl | exact kk.get 18 rfl | exact kk.get 19 rfl | exact kk.get 20 rfl | exact kk.get 21 rfl | exact kk.get 22 rfl | exact kk.get 23 rfl))
local macro_rules | `(tactic| walk_at "sq") => `(tactic| first | assumption | ((rename Kn _ _ _ _ => kk); first
  | exact kn_sq kk 0 rfl | exact kn_sq kk 1 rfl | exact kn_sq kk 2 rfl | exact kn_sq kk 3 rfl | exact kn_sq kk 4 rfl | exact kn_sq kk 5 rfl | exact kn_sq kk 6 rfl | exact kn_sq kk 7 rfl | exact kn_sq kk 8 rfl | exact kn_sq kk 9 rfl | exact kn_sq kk 10 rfl | exact kn_sq kk 11 rfl | exact kn_sq kk 12 rfl | exact kn_sq kk 13 rfl | exact kn_sq kk 14 rfl | exact kn_sq kk 15 rfl | exact kn_sq kk 16 rfl | exact kn_sq kk 17 rfl | exact kn_sq kk 18 rfl | exact kn_sq kk 19 rfl | exact kn_sq kk 20 rfl | exact kn_sq kk 21 rfl | exact kn_sq kk 22 rfl | exact kn_sq kk 23 rfl | exact kk.sq (by assumption) (by first | (intro z; cases z; done) | assumption)))
local macro_rules | `(tactic| walk_at "tq") => `(tactic| first | assumption | ((rename Kn _ _ _ _ => kk); first
  | exact kn_tq kk 0 rfl | exact kn_tq kk 1 rfl | exact kn_tq kk 2 rfl | exact kn_tq kk 3 rfl | exact kn_tq kk 4 rfl | exact kn_tq kk 5 rfl | exact kn_tq kk 6 rfl | exact kn_tq kk 7 rfl | exact kn_tq kk 8 rfl | exact kn_tq kk 9 rfl | exact kn_tq kk 10 rfl | exact kn_tq kk 11 rfl | exact kn_tq kk 12 rfl | exact kn_tq kk 13 rfl | exact kn_tq kk 14 rfl | exact kn_tq kk 15 rfl | exact kn_tq kk 16 rfl | exact kn_tq kk 17 rfl | exact kn_tq kk 18 rfl | exact kn_tq kk 19 rfl | exact kn_tq kk 20 rfl | exact kn_tq kk 21 rfl | exact kn_tq kk 22 rfl | exact kn_tq kk 23 rfl))
local macro_rules | `(tactic| walk_at "go") => `(tactic| repeat (walk_at "go1"))
local macro_rules | `(tactic| walk_at "go1") => `(tactic| (first
  | ((with_reducible refine s_seq ?_); (try walk_at "nz"))
  | with_reducible refine s_asg ?_
  | with_reducible refine s_name ?_
  | ((with_reducible refine' s_var ?gA ?_); (case gA => exact rfl))
  | with_reducible refine s_c ?_
  | with_reducible refine s_op ?_
  | with_reducible refine s_I0 ?_
  | ((with_reducible refine' s_I ?gA ?_); (case gA => first | exact cmul_b | (show (0 : Int) < _; decide) | exact ⟨by decide, by decide⟩ | exact ⟨by decide, by decide, by decide⟩ | exact .inr ⟨by decide, by decide⟩ | exact .inl ⟨by decide, by decide⟩ | (show (0 : Int) < _; omega) | assumption))
  | with_reducible refine s_un ?_
  | with_reducible refine s_U ?_
  | with_reducible refine s_eqI ?_
  | with_reducible refine s_neI ?_
  | with_reducible refine s_test ?_
  | with_reducible refine s_B ?_
  | with_reducible refine s_bl ?_
  | with_reducible refine s_isI ?_
  | with_reducible refine s_ret ?_
  | with_reducible refine s_drop ?_
  | with_reducible refine s_next ?_
  | with_reducible refine s_ifS ?_
  | with_reducible refine s_and ?_
  | with_reducible refine s_or ?_
  | with_reducible refine s_not ?_
  | with_reducible refine s_andV ?_
  | with_reducible refine s_orV ?_
  | ((with_reducible refine' s_aug ?gA ?_); (case gA => exact rfl))
  | with_reducible refine s_ipI ?_
  | with_reducible refine s_forR ?_
  | with_reducible refine s_forR2 ?_
  | with_reducible refine s_forL ?_
  | with_reducible refine s_forT ?_
  | with_reducible refine s_lcR ?_
  | with_reducible refine s_lcL ?_
  | with_reducible refine s_gCons ?_
  | with_reducible refine s_gNil ?_
  | with_reducible refine s_gSub ?_
  | with_reducible refine s_slc ?_
  | with_reducible refine s_par ?_
  | with_reducible refine s_vw ?_
  | ((with_reducible refine' s_gTup ?gA ?gB ?_); (case gA => walk_at "tq"); (case gB => rfl))
  | ((with_reducible refine' s_gLst ?gA ?gB ?_); (case gA => walk_at "sq"); (case gB => rfl))
  | with_reducible refine s_nil ?_
  | with_reducible refine s_cons ?_
  | with_reducible refine s_call0 ?_
  | with_reducible refine s_call ?_
  | with_reducible refine s_CB ?_
  | with_reducible refine s_lst ?_
  | with_reducible refine s_tup ?_
  | with_reducible refine s_sl ?_
  | with_reducible refine s_part ?_
  | with_reducible refine s_nopart ?_
  | with_reducible refine s_int ?_
  | with_reducible refine s_intB ?_
  | with_reducible refine s_abs ?_
  | ((with_reducible refine' s_ixT ?gA ?gB ?_); (case gA => walk_at "tq"); (case gB => exact rfl))
  | ((with_reducible refine' s_ixL ?gA ?gB ?_); (case gA => walk_at "sq"); (case gB => exact rfl))
  | ((with_reducible refine' s_sum ?gA ?_); (case gA => walk_at "sq"))
  | with_reducible refine s_BM ?_
  | with_reducible refine s_BM0 ?_
  | ((with_reducible refine' n_ty ?gA ?_); (case gA => walk_at "sq"))
  | ((with_reducible refine' s_len ?gA ?_); (case gA => walk_at "sq"))
  | ((rename Kn _ _ _ _ => kk); (with_reducible refine' n_lst kk ?gA ?_); (case gA => exact small_len rfl); clear kk; intro _ _ kk)
  | ((rename Kn _ _ _ _ => kk); (with_reducible refine' n_tup kk ?gA ?_); (case gA => exact small_len rfl); clear kk; intro _ _ kk)
  | ((rename Kn _ _ _ _ => kk); (with_reducible refine' s_slL kk ?gA ?_); (case gA => walk_at "sq"); clear kk; intro _ _ kk)
  | ((rename Kn _ _ _ _ => kk); (with_reducible refine' s_list kk ?gA ?_); (case gA => walk_at "sq"); clear kk; intro _ _ kk)))

local macro_rules | `(tactic| walk_at "sub") => `(tactic| repeat (first | exact List.Sublist.slnil | exact List.nil_sublist _ | apply List.Sublist.cons₂ | apply List.Sublist.cons))

def topS (i : Nat) : Stmt := PySem.Challenge.pw_tidemark_k02_whole_sums_go_along.main.body.getD i (.Pass ⟨0, 0, 0, 0⟩)
abbrev s_summed_octets : Stmt := topS 2
abbrev N_summed_octets : List Str := ["page"]
theorem sc_summed_octets : FnScope N_summed_octets ["page"] (defScope s_summed_octets) := ⟨rfl, rfl, rfl, by decide +kernel, rfl, by decide +kernel, by decide +kernel⟩
abbrev s_page_sums : Stmt := topS 3
abbrev N_page_sums : List Str := ["page", "octets", "first", "second", "passed", "octet"]
theorem sc_page_sums : FnScope N_page_sums ["page"] (defScope s_page_sums) := ⟨rfl, rfl, rfl, by decide +kernel, rfl, by decide +kernel, by decide +kernel⟩
abbrev s_u_law_deck : Stmt := topS 5
abbrev N_u_law_deck : List Str := ["script", "cells", "each", "deck", "seed", "k", "cell", "rest", "turn"]
theorem sc_u_law_deck : FnScope N_u_law_deck ["script", "cells", "each"] (defScope s_u_law_deck) := ⟨rfl, rfl, rfl, by decide +kernel, rfl, by decide +kernel, by decide +kernel⟩
abbrev s_u_law_take : Stmt := topS 6
abbrev N_u_law_take : List Str := ["deck", "many"]
theorem sc_u_law_take : FnScope N_u_law_take ["deck", "many"] (defScope s_u_law_take) := ⟨rfl, rfl, rfl, by decide +kernel, rfl, by decide +kernel, by decide +kernel⟩
abbrev s_u_law_pick : Stmt := topS 7
abbrev N_u_law_pick : List Str := ["deck", "items"]
theorem sc_u_law_pick : FnScope N_u_law_pick ["deck", "items"] (defScope s_u_law_pick) := ⟨rfl, rfl, rfl, by decide +kernel, rfl, by decide +kernel, by decide +kernel⟩
abbrev s_u_law_octets : Stmt := topS 8
abbrev N_u_law_octets : List Str := ["deck", "most", "found", "k"]
theorem sc_u_law_octets : FnScope N_u_law_octets ["deck", "most"] (defScope s_u_law_octets) := ⟨rfl, rfl, rfl, by decide +kernel, rfl, by decide +kernel, by decide +kernel⟩
abbrev s_law : Stmt := topS 9
abbrev N_law : List Str := ["script", "deck", "turn", "page", "k", "first", "second", "at", "place", "value", "bent", "change", "hidden", "other", "pair", "both", "calm", "low", "rows", "moved", "one", "two", "left", "right", "turned", "gap"]
theorem sc_law : FnScope N_law ["script"] (defScope s_law) := ⟨rfl, rfl, rfl, by decide +kernel, rfl, by decide +kernel, by decide +kernel⟩
structure Txt (K : PySem.W.Frag) (mg : Str → Option Value) where
  m_list : mg "list" = none
  m_sum : mg "sum" = none
  m_int : mg "int" = none
  m_len : mg "len" = none
  m_range : mg "range" = none
  m_abs : mg "abs" = none
  t_MODULUS : Tok
  v_MODULUS : mg "MODULUS" = some (.int 65521 t_MODULUS)
  f_summed_octets : Addr
  d_summed_octets : FuncData
  F_summed_octets : Fun K "summed_octets" "summed_octets" s_summed_octets f_summed_octets d_summed_octets
  g_summed_octets : mg "summed_octets" = some (.ref f_summed_octets)
  b_summed_octets : Binds K d_summed_octets ["page"] []
  f_page_sums : Addr
  d_page_sums : FuncData
  F_page_sums : Fun K "page_sums" "page_sums" s_page_sums f_page_sums d_page_sums
  g_page_sums : mg "page_sums" = some (.ref f_page_sums)
  b_page_sums : Binds K d_page_sums ["page"] []
  f_u_law_deck : Addr
  d_u_law_deck : FuncData
  F_u_law_deck : Fun K "_law_deck" "_law_deck" s_u_law_deck f_u_law_deck d_u_law_deck
  g_u_law_deck : mg "_law_deck" = some (.ref f_u_law_deck)
  b_u_law_deck : Binds K d_u_law_deck ["script", "cells", "each"] []
  f_u_law_take : Addr
  d_u_law_take : FuncData
  F_u_law_take : Fun K "_law_take" "_law_take" s_u_law_take f_u_law_take d_u_law_take
  g_u_law_take : mg "_law_take" = some (.ref f_u_law_take)
  b_u_law_take : Binds K d_u_law_take ["deck", "many"] []
  f_u_law_pick : Addr
  d_u_law_pick : FuncData
  F_u_law_pick : Fun K "_law_pick" "_law_pick" s_u_law_pick f_u_law_pick d_u_law_pick
  g_u_law_pick : mg "_law_pick" = some (.ref f_u_law_pick)
  b_u_law_pick : Binds K d_u_law_pick ["deck", "items"] []
  f_u_law_octets : Addr
  d_u_law_octets : FuncData
  F_u_law_octets : Fun K "_law_octets" "_law_octets" s_u_law_octets f_u_law_octets d_u_law_octets
  g_u_law_octets : mg "_law_octets" = some (.ref f_u_law_octets)
  b_u_law_octets : Binds K d_u_law_octets ["deck", "most"] []
  f_law : Addr
  d_law : FuncData
  F_law : Fun K "law" "law" s_law f_law d_law
  g_law : mg "law" = some (.ref f_law)
  b_law : Binds K d_law ["script"] []
section
variable {P : Program} {w : World} {K : PySem.W.Frag} {mg : Str → Option Value} {base : Heap}
/-! ### the draws -/
def sp_u_law_take (K : PySem.W.Frag) : Sp := fun vs H Q _ => ∃ (d : Addr) (m : Int), vs = [.ref d, .int m] ∧ 0 < m ∧ DkOk d H ∧ ∀ n H', 0 ≤ n → n < m → Dx d H H' → Q (.int n) H'
theorem ok_u_law_take (T : Txt K mg) : FnOk P w K mg base CX0 1 T.f_u_law_take T.d_u_law_take ["deck", "many"] (sp_u_law_take K) := by
  refine T.F_u_law_take.ok sc_u_law_take (fun vs H Q E h => ?_) (fun cdv A outer s H vs Q E hr h => ?_)
  · obtain ⟨_, _, rfl, _⟩ := h; rfl
  · obtain ⟨d, m, rfl, hm, ⟨ds, hd, hds, hl⟩, q⟩ := h
    refine ⟨_, (pss_one (ps_ret (pe_ifExp (pt_cmpR op_gt (pe_callB (kLen (K := K)) (by rfl) T.m_len (by decide +kernel) (pa_cons (pv 0) pa_nil)) pe_int (nomark _)) (pe_op op_mod (pe_callTy cInt (by rfl) T.m_int (by decide +kernel) (pa_cons (pe_bm0K (K := K) PySem.F.plainAttrs_list PySem.F.slot_list_pop PySem.F.type_list_pop mt_pop (pv 0)) pa_nil)) (pv 1)) pe_int))), ?_⟩
    have hS : SqL K H d (ds.map V.int) := .inl (.inl hd)
    walk_at "go"
    refine s_if ?_
    walk_at "go"
    refine ite_d (fun h => ?_) (fun h => ?_)
    · walk_at "go"
      have h0 : 0 < ds.length := by
        rw [List.length_map] at h
        omega
      have hla : (ds.map V.int)[(ds.map V.int).length - 1]? = some (.int (ds[ds.length - 1]'(by omega))) := by
        rw [List.length_map, List.getElem?_map, List.getElem?_eq_getElem (by omega)]; rfl
      refine ⟨d, _, _, rfl, rfl, hd, hla, ?_⟩
      walk_at "go"
      refine q _ _ (Int.emod_nonneg _ (by omega)) (Int.emod_lt_of_pos _ hm) ⟨fun a o na e => ?_, ds.dropLast, ?_, fun x hx => hds x (List.dropLast_subset _ hx), ?_⟩
      · rw [upd_ne na]; exact e
      · rw [upd_same, List.map_dropLast]
      · rw [List.length_dropLast]; omega
    · walk_at "go"
      exact q 0 H (Int.le_refl _) hm ⟨fun _ _ _ e => e, ds, hd, hds, hl⟩
def sp_u_law_pick (K : PySem.W.Frag) : Sp := fun vs H Q _ => ∃ (d a : Addr) (xs : List V), vs = [.ref d, .ref a] ∧ a ≠ d ∧ SqL K H a xs ∧ xs ≠ [] ∧ DkOk d H ∧ ∀ (n : Nat) x H', xs[n]? = some x → Dx d H H' → Q x H'
theorem ok_u_law_pick (T : Txt K mg) : FnOk P w K mg base CX0 2 T.f_u_law_pick T.d_u_law_pick ["deck", "items"] (sp_u_law_pick K) := by
  refine T.F_u_law_pick.ok sc_u_law_pick (fun vs H Q E h => ?_) (fun cdv A outer s H vs Q E hr h => ?_)
  · obtain ⟨_, _, _, rfl, _⟩ := h; rfl
  · obtain ⟨d, a, xs, rfl, nad, hS, ne, hk, q⟩ := h
    refine ⟨_, (pss_one (ps_ret (pe_ix (kIxL (K := K)) (pv 1) (pe_call (ok_u_law_take T) hr (by rfl) T.g_u_law_take T.F_u_law_take.kp T.b_u_law_take .nil pass0 (pa_cons (pv 0) (pa_cons (pe_callB (kLen (K := K)) (by rfl) T.m_len (by decide +kernel) (pa_cons (pv 1) pa_nil)) pa_nil))) (fun _ _ => rfl)))), ?_⟩
    walk_at "go"
    have hl : 0 < xs.length := List.length_pos_iff.mpr ne
    refine ⟨d, _, rfl, by omega, hk, fun n H1 h0 h1 x1 => ?_⟩
    have hS1 : SqL K H1 a xs := (Kn.deck hk).dx x1 |>.sq hS (fun z => nad (Option.some.inj z))
    obtain ⟨j, rfl⟩ := Int.eq_ofNat_of_zero_le h0
    have hj : j < xs.length := by omega
    refine s_ixL hS1 (atI_nat (List.getElem?_eq_getElem hj)) ?_
    exact q j _ H1 (List.getElem?_eq_getElem hj) x1
end
section
variable {P : Program} {w : World} {K : PySem.W.Frag} {mg : Str → Option Value} {base : Heap}
def InDk (l : List Int) : Prop := ∀ x ∈ l, 0 ≤ x ∧ x < 1000003
theorem InDk.snoc {l : List Int} {x : Int} (h : InDk l) (h0 : 0 ≤ x) (h1 : x < 1000003) : InDk (l ++ [x]) := fun y hy => by
  rcases List.mem_append.mp hy with hy | hy
  · exact h y hy
  · rw [List.mem_singleton.mp hy]; exact ⟨h0, h1⟩
def sp_u_law_deck (K : PySem.W.Frag) : Sp := fun vs H Q _ => ∃ (a : Addr) (ns : List Int) (c e : Nat), vs = [.ref a, .int c, .int e] ∧ SqL K H a (ns.map V.int) ∧ ns.length ≤ 63 ∧ c ≤ 400 ∧ e ≤ 14 ∧
  ∀ H' p, Same H H' → H p = none → DkOk p H' → Q (.ref p) H'
theorem ok_u_law_deck (T : Txt K mg) : FnOk P w K mg base CX0 1 T.f_u_law_deck T.d_u_law_deck ["script", "cells", "each"] (sp_u_law_deck K) := by
  refine T.F_u_law_deck.ok sc_u_law_deck (fun vs H Q E h => ?_) (fun cdv A outer s H vs Q E hr h => ?_)
  · obtain ⟨_, _, _, _, rfl, _⟩ := h; rfl
  · obtain ⟨a, ns, c, e, rfl, hS, hns, hc, he, q⟩ := h
    refine ⟨_, (pss_cons (ps_set (i := 3) sc_u_law_deck.nd rfl (by first | exact Or.inl rfl | exact Or.inr rfl) (pe_lst pa_nil))
      (pss_cons (ps_set (i := 4) sc_u_law_deck.nd rfl (by first | exact Or.inl rfl | exact Or.inr rfl) (pe_op op_add pe_int (pe_callB (kLen (K := K)) (by rfl) T.m_len (by decide +kernel) (pa_cons (pv 0) pa_nil))))
      (pss_cons (ps_for PassesOwn.never rfl (pi_range1 (by rfl) T.m_range (pa_cons (pv 1) pa_nil)) (pg_name (i := 5) sc_u_law_deck.nd rfl (by first | exact Or.inl rfl | exact Or.inr rfl))
        (pss_cons (ps_set (i := 6) sc_u_law_deck.nd rfl (by first | exact Or.inl rfl | exact Or.inr rfl) (pe_ifExp (pt_cmpR op_lt (pv 5) (pe_callB (kLen (K := K)) (by rfl) T.m_len (by decide +kernel) (pa_cons (pv 0) pa_nil)) (nomark _)) (pe_callTy cInt (by rfl) T.m_int (by decide +kernel) (pa_cons (pe_ix (kIxL (K := K)) (pv 0) (pv 5) (fun _ _ => rfl)) pa_nil)) pe_int))
        (pss_cons (ps_set (i := 7) sc_u_law_deck.nd rfl (by first | exact Or.inl rfl | exact Or.inr rfl) (pe_op op_mul (pe_callB cAbs (by rfl) T.m_abs (by decide +kernel) (pa_cons (pv 6) pa_nil)) (pe_callTy cInt (by rfl) T.m_int (by decide +kernel) (pa_cons (pe_cmpR op_ge (pe_callB cAbs (by rfl) T.m_abs (by decide +kernel) (pa_cons (pv 6) pa_nil)) (pe_op op_pow pe_int pe_int) (nomark _)) pa_nil))))
        (pss_cons (ps_set (i := 4) sc_u_law_deck.nd rfl (by first | exact Or.inl rfl | exact Or.inr rfl) (pe_op op_mod (pe_callTy cInt (by rfl) T.m_int (by decide +kernel) (pa_cons (pe_op op_add (pe_op op_add (pe_op op_add (pe_op op_mul (pv 4) pe_int) (pe_op op_mul pe_int (pe_op op_mod (pe_callTy cInt (by rfl) T.m_int (by decide +kernel) (pa_cons (pe_callB cAbs (by rfl) T.m_abs (by decide +kernel) (pa_cons (pv 6) pa_nil)) pa_nil)) pe_int))) (pe_callTy cInt (by rfl) T.m_int (by decide +kernel) (pa_cons (pe_cmpR op_lt (pv 6) pe_int (nomark _)) pa_nil))) (pv 5)) pa_nil)) pe_int))
        (pss_one (ps_for PassesOwn.never rfl (pi_range1 (by rfl) T.m_range (pa_cons (pv 2) pa_nil)) (pg_name (i := 8) sc_u_law_deck.nd rfl (by first | exact Or.inl rfl | exact Or.inr rfl))
          (pss_cons (ps_set (i := 4) sc_u_law_deck.nd rfl (by first | exact Or.inl rfl | exact Or.inr rfl) (pe_op op_mod (pe_callTy cInt (by rfl) T.m_int (by decide +kernel) (pa_cons (pe_op op_add (pe_op op_add (pe_op op_mul (pv 4) pe_int) (pv 8)) pe_int) pa_nil)) pe_int))
          (pss_cons (ps_expr (pe_bmK (K := K) PySem.F.plainAttrs_list PySem.F.slot_list_append PySem.F.type_list_append mt_append (pv 3) (pa_cons (pe_op op_mod (pe_callTy cInt (by rfl) T.m_int (by decide +kernel) (pa_cons (pe_ix (kIxL (K := K)) (pe_lst (pa_cons (pe_op op_fdiv (pv 4) pe_int) (pa_cons (pv 7) pa_nil))) (pe_callTy cInt (by rfl) T.m_int (by decide +kernel) (pa_cons (pe_cmpR op_gt (pv 7) pe_int (nomark _)) pa_nil)) (fun _ _ => rfl)) pa_nil)) pe_int) pa_nil)))
          (pss_one (ps_set (i := 7) sc_u_law_deck.nd rfl (by first | exact Or.inl rfl | exact Or.inr rfl) (pe_op op_fdiv (pv 7) pe_int)))))))))))
      (pss_cons (ps_expr (pe_bm0K (K := K) PySem.F.plainAttrs_list PySem.F.slot_list_reverse PySem.F.type_list_reverse mt_reverse (pv 3)))
      (pss_one (ps_ret (pv 3))))))), ?_⟩
    have kk := Kn.nil (H := H)
    walk_at "go"
    rename_i p H1 kk
    refine n_for (by omega) (by omega) (fun i σ H' => ∃ (sd : Int) (ds : List Int) (y5 y6 y7 y8 : Option V), σ = [some (.ref a), some (.int c), some (.int e), some (.ref p), some (.int sd), y5, y6, y7, y8] ∧
      Kn none H [(p, .lst (ds.map V.int))] H' ∧ InDk ds ∧ ds.length = i * e ∧ 0 ≤ sd ∧ sd < 3000000000
      ) ⟨_, [], none, none, none, none, rfl, kk, (fun _ z => nomatch z), by simp, by omega, by rw [List.length_map]; omega⟩ (fun i σ H' hi hp => ?_) (fun σ H' hp => ?_)
    · obtain ⟨sd, ds, y5, y6, y7, y8, rfl, kk, hds, hl, h0, h1⟩ := hp
      walk_at "go"
      refine s_ifJ (R := fun v H2 => H2 = H' ∧ ∃ z, v = .int z) (fun Q' q' => ?_) (fun v H2 hv => ?_)
      · refine s_if ?_
        walk_at "go"
        refine ite_d (fun h => ?_) (fun h => ?_)
        · walk_at "go"
          rw [List.length_map] at h
          refine s_ixL (kk.sq hS (fun z => nomatch z)) (atI_nat (j := i) (by rw [List.getElem?_map, List.getElem?_eq_getElem (by omega)]; rfl)) ?_
          walk_at "go"
          exact q' _ _ ⟨rfl, _, rfl⟩
        · walk_at "go"
          exact q' _ _ ⟨rfl, _, rfl⟩
      · obtain ⟨rfl, z, rfl⟩ := hv
        walk_at "go"
        refine n_for (by omega) (by omega) (fun j σ H3 => ∃ (sd rs : Int) (ds : List Int) (y8 : Option V), σ = [some (.ref a), some (.int c), some (.int e), some (.ref p), some (.int sd), some (.int i), some (.int z), some (.int rs), y8] ∧
          Kn none H [(p, .lst (ds.map V.int))] H3 ∧ InDk ds ∧ ds.length = i * e + j ∧ 0 ≤ sd ∧ sd < 3000000000
          ) ⟨_, _, ds, _, rfl, kk, hds, by omega, Int.emod_nonneg _ (by decide), Int.lt_trans (Int.emod_lt_of_pos _ (by decide)) (by decide)⟩ (fun j σ H3 hj hp => ?_) (fun σ H3 hp => ?_)
        · obtain ⟨sd, rs, ds, y8, rfl, kk, hds, hl, h0, h1⟩ := hp
          walk_at "go"
          rename_i tp H4 kk4
          refine s_ixL (v := .int (if 0 < rs then rs else (sd * 69621 + j + 1) % 2147483629 / 7)) (kn_sq kk4 0 rfl) (by by_cases h : 0 < rs <;> simp [h] <;> rfl) ?_
          walk_at "go"
          refine a_append kk4 1 rfl (by rw [List.length_map, hl]; have := Nat.mul_le_mul (show i ≤ 400 by omega) he; omega) (fun H5 k5 => ?_)
          walk_at "go"
          refine ⟨_, _, ds ++ [(if 0 < rs then rs else (sd * 69621 + j + 1) % 2147483629 / 7) % 1000003], _, rfl, ?_, hds.snoc (Int.emod_nonneg _ (by decide)) (Int.emod_lt_of_pos _ (by decide)), ?_, Int.emod_nonneg _ (by decide), Int.lt_trans (Int.emod_lt_of_pos _ (by decide)) (by decide)⟩
          · rw [List.map_append]
            exact k5.forget 1
          · rw [List.length_append, hl]; rfl
        · obtain ⟨sd, rs, ds, y8, rfl, kk, hds, hl, h0, h1⟩ := hp
          refine ⟨sd, ds, _, _, _, _, rfl, kk, hds, ?_, h0, h1⟩
          rw [hl, Int.toNat_natCast, Nat.succ_mul]
    · obtain ⟨sd, ds, y5, y6, y7, y8, rfl, kk, hds, hl, h0, h1⟩ := hp
      walk_at "go"
      refine a_reverse kk 0 rfl (fun H5 k5 => ?_)
      walk_at "go"
      refine q H5 p k5.toSame (k5.nw_at 0 rfl) ⟨ds.reverse, ?_, fun x hx => hds x (List.mem_reverse.mp hx), ?_⟩
      · rw [List.map_reverse]; exact k5.get 0 rfl
      · rw [List.length_reverse, hl, Int.toNat_natCast]
        exact Nat.le_trans (Nat.mul_le_mul hc he) (by decide)
end
section
variable {K : PySem.W.Frag} {H H0 : Hp} {Q : VK} {E : XK} {d a : Addr} {G : List (Addr × HO)} {m : Int} {xs : List V}
theorem u_take (k : Kn (some d) H0 G H) (hm : 0 < m) (q : ∀ n H', 0 ≤ n → n < m → Kn (some d) H0 G H' → Q (.int n) H') : sp_u_law_take K [.ref d, .int m] H Q E :=
  ⟨d, m, rfl, hm, k.dk', fun n H' h0 h1 x => q n H' h0 h1 (k.dx x)⟩
theorem u_pick (k : Kn (some d) H0 G H) (i : Nat) (h : G[i]? = some (a, .lst xs)) (ne : xs ≠ []) (q : ∀ x H', x ∈ xs → Kn (some d) H0 G H' → Q x H') : sp_u_law_pick K [.ref d, .ref a] H Q E :=
  ⟨d, a, xs, rfl, fun z => k.dk0 d rfl (z ▸ k.nw_at i h), kn_sq k i h, ne, k.dk', fun n x H' hx e => q x H' (List.mem_of_getElem? hx) (k.dx e)⟩
end
local macro_rules | `(tactic| walk_at "dr") => `(tactic| first
  | ((rename Kn _ _ _ _ => kk); (with_reducible refine' u_take kk ?gA ?_); (case gA => first | omega | decide); clear kk; intro _ _ _ _ kk)
  | ((rename Kn _ _ _ _ => kk); (with_reducible refine' u_pick kk 0 rfl ?gA ?_); (case gA => exact List.cons_ne_nil _ _); clear kk; intro _ _ _ kk))
local macro_rules | `(tactic| walk_at "gd") => `(tactic| repeat (first | walk_at "dr" | (walk_at "go1")))
/-! ### sums -/
def smd (ns : List Int) : List Int := ns.take 1 ++ ns.drop 5
def wsum : List Int → Int
  | [] => 0
  | x :: r => x * (r.length + 1) + wsum r
theorem wsum_append : ∀ a b : List Int, wsum (a ++ b) = wsum a + a.sum * b.length + wsum b
  | [], b => by simp [wsum]
  | x :: a, b => by
    have ih := wsum_append a b
    show x * (((a ++ b).length : Int) + 1) + wsum (a ++ b) = (x * ((a.length : Int) + 1) + wsum a) + (x :: a).sum * b.length + wsum b
    rw [ih, List.sum_cons, List.length_append, Int.add_mul, Int.natCast_add, Int.mul_add, Int.mul_add, Int.mul_add]
    omega
theorem wsum_snoc (l : List Int) (x : Int) : wsum (l ++ [x]) = wsum l + l.sum + x := by
  rw [wsum_append]
  simp [wsum]
theorem wsum_rep0 : ∀ n : Nat, wsum (List.replicate n 0) = 0
  | 0 => rfl
  | n + 1 => by
    show 0 * _ + wsum (List.replicate n 0) = 0
    rw [wsum_rep0 n]; simp
theorem sum_rep0 : ∀ n : Nat, (List.replicate n (0 : Int)).sum = 0
  | 0 => rfl
  | n + 1 => by rw [List.replicate_succ, List.sum_cons, sum_rep0 n]; rfl
theorem wsum_set : ∀ (l : List Int) (i : Nat) (z v : Int), l[i]? = some z → wsum (l.set i v) = wsum l + (v - z) * ((l.length : Int) - i)
  | [], i, z, v, h => by simp at h
  | x :: r, 0, z, v, h => by
    have e : x = z := Option.some.inj h
    subst e
    show v * ((r.length : Int) + 1) + wsum r = (x * ((r.length : Int) + 1) + wsum r) + (v - x) * (((r.length + 1 : Nat) : Int) - 0)
    rw [Int.sub_zero, Int.natCast_add, Int.sub_mul]
    show v * ((r.length : Int) + 1) + wsum r = (x * ((r.length : Int) + 1) + wsum r) + (v * ((r.length : Int) + 1) - x * ((r.length : Int) + 1))
    omega
  | x :: r, i + 1, z, v, h => by
    have ih := wsum_set r i z v h
    show x * (((r.set i v).length : Int) + 1) + wsum (r.set i v) = (x * ((r.length : Int) + 1) + wsum r) + (v - z) * (((r.length + 1 : Nat) : Int) - ((i + 1 : Nat) : Int))
    rw [ih, List.length_set, show ((r.length + 1 : Nat) : Int) - ((i + 1 : Nat) : Int) = (r.length : Int) - i by omega]
    omega
/-- the two sums -/
def S1 (ns : List Int) : Int := (smd ns).sum
def S2 (ns : List Int) : Int := wsum (smd ns)
section
variable {P : Program} {w : World} {K : PySem.W.Frag} {mg : Str → Option Value} {base : Heap}
theorem cut5 (ns : List Int) (h : 5 ≤ ns.length) : cutV (ns.map V.int) (some 5) none = (ns.drop 5).map V.int := by
  unfold cutV
  rw [show HT.sIx (ns.map V.int).length 0 (some 5) = 5 by
    rw [List.length_map]
    have := HT.sIx_nat ns.length 0 5
    rw [show ((5 : Nat) : Int) = 5 from rfl] at this
    rw [this]; omega, HT.sIx_none, List.map_drop]
  exact List.take_of_length_le (by rw [List.length_drop]; omega)
def sp_summed_octets (K : PySem.W.Frag) : Sp := fun vs H Q _ => ∃ (a : Addr) (ns : List Int), vs = [.ref a] ∧ SqL K H a (ns.map V.int) ∧ ns.length = 512 ∧
  ∀ H' p, Same H H' → H p = none → H' p = some (.lst ((smd ns).map V.int)) → Q (.ref p) H'
theorem ok_summed_octets (T : Txt K mg) : FnOk P w K mg base CX0 1 T.f_summed_octets T.d_summed_octets ["page"] (sp_summed_octets K) := by
  refine T.F_summed_octets.ok sc_summed_octets (fun vs H Q E h => ?_) (fun cdv A outer s H vs Q E hr h => ?_)
  · obtain ⟨_, _, rfl, _⟩ := h; rfl
  · obtain ⟨a, ns, rfl, hS, hl, q⟩ := h
    refine ⟨_, (pss_one (ps_ret (pe_op op_cat (pe_lst (pa_cons (pe_ix (kIxL (K := K)) (pv 0) pe_int (fun _ _ => rfl)) pa_nil)) (pe_callTy (kList (K := K)) (by rfl) T.m_list (by decide +kernel) (pa_cons (pe_slice (kSlL (K := K)) (pv 0) (po_some pe_int) po_none) pa_nil))))), ?_⟩
    have kk := Kn.nil (H := H)
    walk_at "go"
    have h0 : 0 < ns.length := by omega
    refine s_ixL hS (atI_nat (j := 0) (v := .int (ns[0]'h0)) (by rw [List.getElem?_map, List.getElem?_eq_getElem h0]; rfl)) ?_
    walk_at "go"
    rename_i p1 H1 p2 H2 p3 H3 k3
    rw [cut5 ns (by omega)] at k3
    refine s_cat k3 (k3.get 2 rfl) (k3.get 0 rfl) (by rw [List.length_map, List.length_drop]; simp only [List.length_cons, List.length_nil]; omega) (fun l H4 k4 => ?_)
    refine q H4 l k4.toSame (k4.nw_at 0 rfl) ?_
    rw [k4.get 0 rfl]
    have e : ns.take 1 = [ns[0]'h0] := by
      match ns, h0 with
      | x :: r, _ => rfl
    unfold smd
    rw [e, List.map_append]
    try rfl
def sp_page_sums (K : PySem.W.Frag) : Sp := fun vs H Q _ => ∃ (a : Addr) (ns : List Int), vs = [.ref a] ∧ SqL K H a (ns.map V.int) ∧ ns.length = 512 ∧
  ∀ H' p, Same H H' → H p = none → H' p = some (.tup [.int (S1 ns % 65521), .int (S2 ns % 65521)]) → Q (.ref p) H'
theorem ok_page_sums (T : Txt K mg) : FnOk P w K mg base CX0 2 T.f_page_sums T.d_page_sums ["page"] (sp_page_sums K) := by
  refine T.F_page_sums.ok sc_page_sums (fun vs H Q E h => ?_) (fun cdv A outer s H vs Q E hr h => ?_)
  · obtain ⟨_, _, rfl, _⟩ := h; rfl
  · obtain ⟨a, ns, rfl, hS, hl, q⟩ := h
    refine ⟨_, (pss_cons (ps_set (i := 1) sc_page_sums.nd rfl (by first | exact Or.inl rfl | exact Or.inr rfl) (pe_call (ok_summed_octets T) hr (by rfl) T.g_summed_octets T.F_summed_octets.kp T.b_summed_octets .nil pass0 (pa_cons (pv 0) pa_nil)))
      (pss_cons (ps_set (i := 2) sc_page_sums.nd rfl (by first | exact Or.inl rfl | exact Or.inr rfl) (pe_callB (kSum (K := K) rfl) (by rfl) T.m_sum (by decide +kernel) (pa_cons (pv 1) pa_nil)))
      (pss_cons (ps_set (i := 3) sc_page_sums.nd rfl (by first | exact Or.inl rfl | exact Or.inr rfl) pe_int)
      (pss_cons (ps_set (i := 4) sc_page_sums.nd rfl (by first | exact Or.inl rfl | exact Or.inr rfl) pe_int)
      (pss_cons (ps_for PassesOwn.never rfl (pi_listK (K := K) (pv 1)) (pg_name (i := 5) sc_page_sums.nd rfl (by first | exact Or.inl rfl | exact Or.inr rfl))
        (pss_cons (ps_aug (i := 4) sc_page_sums.nd rfl (by first | exact Or.inl rfl | exact Or.inr rfl) (pv 5) ip_add)
        (pss_one (ps_aug (i := 3) sc_page_sums.nd rfl (by first | exact Or.inl rfl | exact Or.inr rfl) (pv 4) ip_add))))
      (pss_one (ps_ret (pe_tup (pa_cons (pe_op op_mod (pe_callTy cInt (by rfl) T.m_int (by decide +kernel) (pa_cons (pv 2) pa_nil)) (pe_glob (v := .int 65521) (by rfl) T.v_MODULUS ⟨_, rfl⟩)) (pa_cons (pe_op op_mod (pe_callTy cInt (by rfl) T.m_int (by decide +kernel) (pa_cons (pv 3) pa_nil)) (pe_glob (v := .int 65521) (by rfl) T.v_MODULUS ⟨_, rfl⟩)) pa_nil)))))))))), ?_⟩
    have kk := Kn.nil (H := H)
    walk_at "go"
    refine ⟨a, ns, rfl, hS, hl, fun H1 p sm hn hp => ?_⟩
    have kk := kk.ret hn sm hp
    walk_at "go"
    refine n_forL (kn_sq kk 0 rfl) (fun i σ H' => ∃ y5, σ = [some (.ref a), some (.ref p), some (.int (S1 ns)), some (.int (wsum ((smd ns).take i))), some (.int ((smd ns).take i).sum), y5] ∧ Kn none H [(p, .lst ((smd ns).map V.int))] H')
      ⟨_, rfl, kk⟩ (fun i σ H' hi hp => ?_) (fun i x σ H' hx hp => ?_) (fun σ H' hp => ?_)
    · obtain ⟨_, _, k⟩ := hp
      exact kn_sq k 0 rfl
    · obtain ⟨y5, rfl, k⟩ := hp
      obtain ⟨z, hz, rfl⟩ : ∃ z, (smd ns)[i]? = some z ∧ V.int z = x := by
        rw [List.getElem?_map] at hx
        cases e : (smd ns)[i]? with
        | none => rw [e] at hx; cases hx
        | some z => rw [e] at hx; exact ⟨z, rfl, Option.some.inj hx⟩
      walk_at "go"
      refine ⟨some (.int z), ?_, k⟩
      have e : (smd ns).take (i + 1) = (smd ns).take i ++ [z] := by rw [List.take_add_one, hz]; rfl
      rw [e, wsum_snoc, List.sum_append]
      rw [show ([z] : List Int).sum = z by simp, Int.add_assoc]
      rfl
    · obtain ⟨y5, rfl, k⟩ := hp
      rw [List.take_of_length_le (by rw [List.length_map]; exact Nat.le_refl _)]
      walk_at "go"
      rename_i p2 H2 k2
      exact q H2 p2 k2.toSame (k2.nw_at 0 rfl) (k2.get 0 rfl)
end
section
variable {P : Program} {w : World} {K : PySem.W.Frag} {mg : Str → Option Value} {base : Heap}
def sp_u_law_octets (K : PySem.W.Frag) : Sp := fun vs H Q _ => ∃ (d : Addr) (m : Int), vs = [.ref d, .int m] ∧ 0 ≤ m ∧ m ≤ 1000 ∧ DkOk d H ∧
  ∀ (ns : List Int) (H' : Hp) (p : Addr), Dx d H H' → H p = none → H' p = some (.lst (ns.map V.int)) → (ns.length : Int) ≤ m → (∀ x ∈ ns, 0 ≤ x ∧ x < 256) → Q (.ref p) H'
theorem ok_u_law_octets (T : Txt K mg) : FnOk P w K mg base CX0 3 T.f_u_law_octets T.d_u_law_octets ["deck", "most"] (sp_u_law_octets K) := by
  refine T.F_u_law_octets.ok sc_u_law_octets (fun vs H Q E h => ?_) (fun cdv A outer s H vs Q E hr h => ?_)
  · obtain ⟨_, _, rfl, _⟩ := h; rfl
  · obtain ⟨d, m, rfl, h0, h1, hk, q⟩ := h
    refine ⟨_, (pss_cons (ps_set (i := 2) sc_u_law_octets.nd rfl (by first | exact Or.inl rfl | exact Or.inr rfl) (pe_lst pa_nil))
      (pss_cons (ps_for PassesOwn.never rfl (pi_range1 (by rfl) T.m_range (pa_cons (pe_call (ok_u_law_take T) (hr.mono (by decide)) (by rfl) T.g_u_law_take T.F_u_law_take.kp T.b_u_law_take .nil pass0 (pa_cons (pv 0) (pa_cons (pe_op op_add (pv 1) pe_int) pa_nil))) pa_nil)) (pg_name (i := 3) sc_u_law_octets.nd rfl (by first | exact Or.inl rfl | exact Or.inr rfl))
        (pss_one (ps_expr (pe_bmK (K := K) PySem.F.plainAttrs_list PySem.F.slot_list_append PySem.F.type_list_append mt_append (pv 2) (pa_cons (pe_call (ok_u_law_pick T) hr (by rfl) T.g_u_law_pick T.F_u_law_pick.kp T.b_u_law_pick .nil pass0 (pa_cons (pv 0) (pa_cons (pe_lst (pa_cons pe_int (pa_cons pe_int (pa_cons pe_int (pa_cons (pe_call (ok_u_law_take T) (hr.mono (by decide)) (by rfl) T.g_u_law_take T.F_u_law_take.kp T.b_u_law_take .nil pass0 (pa_cons (pv 0) (pa_cons pe_int pa_nil))) pa_nil))))) pa_nil))) pa_nil)))))
      (pss_one (ps_ret (pv 2))))), ?_⟩
    have kk := Kn.deck hk
    walk_at "gd"
    rename_i p _ n H1 n0 n1 kk
    refine n_for (by omega) (by omega) (fun i σ H' => ∃ (ns : List Int) (y3 : Option V), σ = [some (.ref d), some (.int m), some (.ref p), y3] ∧ Kn (some d) H [(p, .lst (ns.map V.int))] H' ∧ ns.length = i ∧ ∀ x ∈ ns, 0 ≤ x ∧ x < 256)
      ⟨[], _, rfl, kk, rfl, (fun _ z => nomatch z)⟩ (fun i σ H' hi hp => ?_) (fun σ H' hp => ?_)
    · obtain ⟨ns, y3, rfl, kk, hl, hb⟩ := hp
      walk_at "gd"
      rename_i z _ z0 z1 tp _ x H5 hx kk
      obtain ⟨y, rfl, y0, y1⟩ : ∃ y : Int, x = .int y ∧ 0 ≤ y ∧ y < 256 := by
        simp only [List.mem_cons, List.not_mem_nil, or_false] at hx
        rcases hx with rfl | rfl | rfl | rfl
        · exact ⟨_, rfl, by decide, by decide⟩
        · exact ⟨_, rfl, by decide, by decide⟩
        · exact ⟨_, rfl, by decide, by decide⟩
        · exact ⟨_, rfl, z0, z1⟩
      refine a_append kk 1 rfl (by rw [List.length_map]; omega) (fun H6 k6 => ?_)
      walk_at "gd"
      refine ⟨ns ++ [y], _, rfl, ?_, by rw [List.length_append, hl]; rfl, fun u hu => ?_⟩
      · rw [List.map_append]; exact k6.forget 1
      · rcases List.mem_append.mp hu with hu | hu
        · exact hb u hu
        · rw [List.mem_singleton.mp hu]; exact ⟨y0, y1⟩
    · obtain ⟨ns, y3, rfl, kk, hl, hb⟩ := hp
      walk_at "gd"
      exact q ns H' p kk.toDx (kk.nw_at 0 rfl) (kk.get 0 rfl) (by omega) hb
end
/-! ### what changes the sums -/
theorem five {ns : List Int} (h : ns.length = 512) : ∃ a b c d e r, ns = a :: b :: c :: d :: e :: r ∧ r.length = 507 := by
  match ns, h with
  | a :: b :: c :: d :: e :: r, h => exact ⟨a, b, c, d, e, r, rfl, by simpa using h⟩
theorem S1_eq (a b c d e : Int) (r : List Int) : S1 (a :: b :: c :: d :: e :: r) = a + r.sum := by
  show (a :: r).sum = _
  rw [List.sum_cons]
theorem S2_eq (a b c d e : Int) (r : List Int) : S2 (a :: b :: c :: d :: e :: r) = a * ((r.length : Int) + 1) + wsum r := rfl
theorem S_set {ns : List Int} (h : ns.length = 512) {i : Nat} {z v pl : Int} (hz : ns[i]? = some z) (hi : i = 0 ∧ pl = 0 ∨ 5 ≤ i ∧ pl = (i : Int) - 4) :
    S1 (ns.set i v) = S1 ns + (v - z) ∧ S2 (ns.set i v) = S2 ns + (v - z) * (508 - pl) := by
  obtain ⟨a, b, c, d, e, r, rfl, hr⟩ := five h
  rcases hi with ⟨rfl, rfl⟩ | ⟨hi, rfl⟩
  · have e1 : a = z := Option.some.inj hz
    subst e1
    rw [show (a :: b :: c :: d :: e :: r).set 0 v = v :: b :: c :: d :: e :: r from rfl, S1_eq, S1_eq, S2_eq, S2_eq, hr]
    exact ⟨by omega, by omega⟩
  · obtain ⟨j, rfl⟩ : ∃ j, i = j + 5 := ⟨i - 5, by omega⟩
    have hz' : r[j]? = some z := hz
    rw [show (a :: b :: c :: d :: e :: r).set (j + 5) v = a :: b :: c :: d :: e :: r.set j v from rfl, S1_eq, S1_eq, S2_eq, S2_eq, List.length_set, wsum_set r j z v hz', L2.sum_set hz', hr]
    refine ⟨by omega, ?_⟩
    rw [show (508 : Int) - (((j + 5 : Nat) : Int) - 4) = ((507 : Nat) : Int) - (j : Int) by omega]
    omega
theorem S_hid {ns : List Int} (h : ns.length = 512) {i : Nat} {v : Int} (h1 : 1 ≤ i) (h4 : i ≤ 4) : S1 (ns.set i v) = S1 ns ∧ S2 (ns.set i v) = S2 ns := by
  obtain ⟨a, b, c, d, e, r, rfl, hr⟩ := five h
  match i, h1, h4 with
  | 1, _, _ => exact ⟨rfl, rfl⟩
  | 2, _, _ => exact ⟨rfl, rfl⟩
  | 3, _, _ => exact ⟨rfl, rfl⟩
  | 4, _, _ => exact ⟨rfl, rfl⟩
def addL : List Int → List Int → List Int
  | x :: a, y :: b => (x + y) :: addL a b
  | _, _ => []
theorem addL_len : ∀ a b : List Int, a.length = b.length → (addL a b).length = a.length
  | [], _, _ => rfl
  | x :: a, y :: b, h => by
    have ih := addL_len a b (by simpa using h)
    show (addL a b).length + 1 = a.length + 1
    rw [ih]
theorem addL_get : ∀ (a b : List Int) (i : Nat) (x y : Int), a[i]? = some x → b[i]? = some y → (addL a b)[i]? = some (x + y)
  | [], _, _, _, _, h, _ => by simp at h
  | _ :: _, [], _, _, _, _, h => by simp at h
  | u :: a, v :: b, 0, x, y, h, k => by
    have e1 : u = x := Option.some.inj h
    have e2 : v = y := Option.some.inj k
    subst e1; subst e2; rfl
  | u :: a, v :: b, i + 1, x, y, h, k => addL_get a b i x y h k
theorem addL_sums : ∀ a b : List Int, a.length = b.length → (addL a b).sum = a.sum + b.sum ∧ wsum (addL a b) = wsum a + wsum b
  | [], [], _ => ⟨rfl, rfl⟩
  | x :: a, y :: b, h => by
    have hl : a.length = b.length := by simpa using h
    obtain ⟨i1, i2⟩ := addL_sums a b hl
    constructor
    · show ((x + y) :: addL a b).sum = _
      rw [List.sum_cons, List.sum_cons, List.sum_cons, i1]; omega
    · show (x + y) * (((addL a b).length : Int) + 1) + wsum (addL a b) = (x * ((a.length : Int) + 1) + wsum a) + (y * ((b.length : Int) + 1) + wsum b)
      rw [i2, addL_len a b hl, ← hl, Int.add_mul]; omega
theorem S_add {a b : List Int} (ha : a.length = 512) (hb : b.length = 512) : S1 (addL a b) = S1 a + S1 b ∧ S2 (addL a b) = S2 a + S2 b := by
  obtain ⟨a0, a1, a2, a3, a4, r, rfl, hr⟩ := five ha
  obtain ⟨b0, b1, b2, b3, b4, u, rfl, hu⟩ := five hb
  obtain ⟨i1, i2⟩ := addL_sums r u (by rw [hr, hu])
  show S1 ((a0 + b0) :: (a1 + b1) :: (a2 + b2) :: (a3 + b3) :: (a4 + b4) :: addL r u) = _ ∧ S2 ((a0 + b0) :: (a1 + b1) :: (a2 + b2) :: (a3 + b3) :: (a4 + b4) :: addL r u) = _
  rw [S1_eq, S1_eq, S1_eq, S2_eq, S2_eq, S2_eq, i1, i2, addL_len r u (by rw [hr, hu]), hr, hu, Int.add_mul]
  exact ⟨by omega, by omega⟩
/-- a row among zeros -/
def rowAt (lo : Nat) (rs : List Int) : List Int := List.replicate lo 0 ++ rs ++ List.replicate (512 - lo - rs.length) 0
theorem smd_rowAt {lo : Nat} {rs : List Int} (h : 5 ≤ lo) : smd (rowAt lo rs) = List.replicate (lo - 4) 0 ++ rs ++ List.replicate (512 - lo - rs.length) 0 := by
  obtain ⟨k, rfl⟩ : ∃ k, lo = k + 5 := ⟨lo - 5, by omega⟩
  unfold rowAt smd
  rw [show List.replicate (k + 5) (0 : Int) = 0 :: 0 :: 0 :: 0 :: 0 :: List.replicate k 0 from rfl]
  show [0] ++ (List.replicate k 0 ++ rs ++ List.replicate (512 - (k + 5) - rs.length) 0) = _
  rw [show k + 5 - 4 = k + 1 by omega]
  rfl
theorem S_rowAt {lo : Nat} {rs : List Int} (h : 5 ≤ lo) : S1 (rowAt lo rs) = rs.sum ∧ S2 (rowAt lo rs) = wsum rs + rs.sum * ((512 - lo - rs.length : Nat) : Int) := by
  unfold S1 S2
  rw [smd_rowAt h]
  constructor
  · rw [List.sum_append, List.sum_append, sum_rep0, sum_rep0]; omega
  · rw [wsum_append, wsum_append, wsum_rep0, sum_rep0, wsum_rep0, List.sum_append, sum_rep0, List.length_replicate, Int.zero_mul, Int.zero_add, Int.zero_add, Int.zero_add, Int.add_zero]
theorem S_moved {lo : Nat} {rs : List Int} (h : 5 ≤ lo) (h2 : lo + rs.length + 1 ≤ 512) : S2 (rowAt (lo + 1) rs) = S2 (rowAt lo rs) - rs.sum := by
  rw [(S_rowAt h).2, (S_rowAt (show 5 ≤ lo + 1 by omega)).2, show ((512 - lo - rs.length : Nat) : Int) = ((512 - (lo + 1) - rs.length : Nat) : Int) + 1 by omega, Int.mul_add, Int.mul_one]
  omega
theorem S_turn {ns : List Int} (h : ns.length = 512) {i j : Nat} {a b : Int} (hi : ns[i]? = some a) (hj : ns[j]? = some b) (h5 : 5 ≤ i) (k5 : 5 ≤ j) :
    S1 ((ns.set i b).set j a) = S1 ns ∧ S2 ((ns.set i b).set j a) = S2 ns + (b - a) * ((j : Int) - i) := by
  have h1 := S_set h (v := b) (pl := (i : Int) - 4) hi (.inr ⟨h5, rfl⟩)
  have hl : i < ns.length := (List.getElem?_eq_some_iff.mp hi).1
  have hb : (ns.set i b)[j]? = some b := by
    by_cases e : i = j
    · subst e; rw [List.getElem?_set_self hl]
    · rw [List.getElem?_set_ne e]; exact hj
  have h2 := S_set (ns := ns.set i b) (by rw [List.length_set]; exact h) (v := a) (pl := (j : Int) - 4) hb (.inr ⟨k5, rfl⟩)
  refine ⟨by rw [h2.1, h1.1]; omega, ?_⟩
  rw [h2.2, h1.2, show (508 : Int) - ((i : Int) - 4) = 512 - i by omega, show (508 : Int) - ((j : Int) - 4) = 512 - j by omega, Int.sub_mul, Int.sub_mul, Int.sub_mul, Int.mul_sub, Int.mul_sub, Int.mul_sub, Int.mul_sub, Int.mul_sub, Int.mul_sub]
  omega
section
variable {K : PySem.W.Frag} {H H0 : Hp} {Q : VK} {E : XK} {d a : Addr} {G : List (Addr × HO)} {m : Int} {xs : List V}
theorem u_sums (k : Kn (some d) H0 G H) (i : Nat) {ns : List Int} (h : G[i]? = some (a, .lst (ns.map V.int))) (hl : ns.length = 512)
    (q : ∀ p H', Kn (some d) H0 ((p, .tup [.int (S1 ns % 65521), .int (S2 ns % 65521)]) :: G) H' → Q (.ref p) H') : sp_page_sums K [.ref a] H Q E :=
  ⟨a, ns, rfl, kn_sq k i h, hl, fun _ p sm hn hp => q p _ (k.ret hn sm hp)⟩
theorem u_octets (k : Kn (some d) H0 G H) (h0 : 0 ≤ m) (h1 : m ≤ 1000)
    (q : ∀ (ns : List Int) p H', (ns.length : Int) ≤ m → (∀ x ∈ ns, 0 ≤ x ∧ x < 256) → Kn (some d) H0 ((p, .lst (ns.map V.int)) :: G) H' → Q (.ref p) H') : sp_u_law_octets K [.ref d, .int m] H Q E :=
  ⟨d, m, rfl, h0, h1, k.dk', fun ns H' p x hn hp hl hb => q ns p H' hl hb (k.retD hn x hp)⟩
theorem pair_dp {p q : Addr} {x y : Int} (k : Kn (some d) H0 G H) (i j : Nat) (h : G[i]? = some (p, .tup [.int x, .int y])) (h' : G[j]? = some (q, .tup [.int x, .int y])) (r : Q (.bl false) H) : rNeD K (.ref p) (.ref q) H Q :=
  s_ne_same (.tuple [.int x, .int y]) (dp_t2 (kn_tq k i h)) (dp_t2 (kn_tq k j h')) rfl r
theorem pair_eq {p q : Addr} {x y : Int} (k : Kn (some d) H0 G H) (i j : Nat) (h : G[i]? = some (p, .tup [.int x, .int y])) (h' : G[j]? = some (q, .tup [.int x, .int y])) (r : Q (.bl true) H) : rEqD K (.ref p) (.ref q) H Q :=
  s_eq_same (.tuple [.int x, .int y]) (dp_t2 (kn_tq k i h)) (dp_t2 (kn_tq k j h')) rfl r
end
theorem get_map {ns : List Int} {i : Nat} {z : Int} (h : ns[i]? = some z) : (ns.map V.int)[i]? = some (.int z) := by rw [List.getElem?_map, h]; rfl
theorem rep1 {n : Int} {z : Int} : (List.replicate n.toNat [V.int z]).flatten = (List.replicate n.toNat z).map V.int := by
  induction n.toNat with
  | zero => rfl
  | succ k ih => rw [List.replicate_succ, List.flatten_cons, ih]; rfl
theorem rowAt_len {lo : Nat} {rs : List Int} (h : lo + rs.length ≤ 512) : (rowAt lo rs).length = 512 := by
  unfold rowAt
  rw [List.length_append, List.length_append, List.length_replicate, List.length_replicate]; omega
theorem slice_row {lo : Nat} {rs : List Int} (h : lo + rs.length ≤ 512) : ((List.replicate 512 (0 : Int)).map V.int).take lo ++ rs.map V.int ++ ((List.replicate 512 (0 : Int)).map V.int).drop (lo + rs.length) = (rowAt lo rs).map V.int := by
  unfold rowAt
  rw [List.map_append, List.map_append, ← List.map_take, ← List.map_drop, List.take_replicate, List.drop_replicate, show min lo 512 = lo by omega, show 512 - (lo + rs.length) = 512 - lo - rs.length by omega]
section
variable {P : Program} {w : World} {K : PySem.W.Frag} {mg : Str → Option Value} {base : Heap}
local macro_rules | `(tactic| walk_at "nz") => `(tactic| (refine s_sig (σ' := [_, _, _, _, _, _, _, _, _, _, _, _, _, _, _, _, _, _, _, _, _, _, _, _, _, _]) rfl ?_))
def sp_law (K : PySem.W.Frag) : Sp := fun vs H Q _ => ∃ (a : Addr) (ns : List Int), vs = [.ref a] ∧ SqL K H a (ns.map V.int) ∧ ns.length ≤ 63 ∧ ∀ H', Q (.bl true) H'
set_option maxHeartbeats 0 in
theorem ok_law (T : Txt K mg) : FnOk P w K mg base CX0 4 T.f_law T.d_law ["script"] (sp_law K) := by
  refine T.F_law.ok sc_law (fun vs H Q E h => ?_) (fun cdv A outer s H vs Q E hr h => ?_)
  · obtain ⟨_, _, rfl, _⟩ := h; rfl
  · obtain ⟨a, scr, rfl, hS, hns, q⟩ := h
    refine ⟨_, (pss_cons (ps_set (i := 1) sc_law.nd rfl (by first | exact Or.inl rfl | exact Or.inr rfl) (pe_call (ok_u_law_deck T) (hr.mono (by decide)) (by rfl) T.g_u_law_deck T.F_u_law_deck.kp T.b_u_law_deck .nil pass0 (pa_cons (pv 0) (pa_cons pe_int (pa_cons pe_int pa_nil)))))
      (pss_cons (ps_for PassesOwn.never rfl (pi_range1 (by rfl) T.m_range (pa_cons pe_int pa_nil)) (pg_name (i := 2) sc_law.nd rfl (by first | exact Or.inl rfl | exact Or.inr rfl))
        (pss_cons (ps_set (i := 3) sc_law.nd rfl (by first | exact Or.inl rfl | exact Or.inr rfl) (pe_lcK (own := [("k", 4)]) (vs := [4]) (g := gName 4) (tt := tYes) rfl (by rfl) sc_law.nd (pi_range1 (by rfl) T.m_range (pa_cons pe_int pa_nil)) (blkOk_by (own := [("k", 4)]) (N := N_law) (sc := defScope s_law) (by decide +kernel)) (fun _ _ _ _ _ => pg_name (i := 4) sc_law.nd rfl (by first | exact Or.inl rfl | exact Or.inr rfl) (by first | exact Or.inl rfl | exact Or.inr rfl)) (fun _ _ _ _ _ => pts_nil) (fun _ _ _ _ _ => (pe_call (ok_u_law_take T) (hr.mono (by decide)) (by rfl) T.g_u_law_take T.F_u_law_take.kp T.b_u_law_take .nil pass0 (pa_cons (pv 1) (pa_cons (pe_call (ok_u_law_pick T) (hr.mono (by decide)) (by rfl) T.g_u_law_pick T.F_u_law_pick.kp T.b_u_law_pick .nil pass0 (pa_cons (pv 1) (pa_cons (pe_lst (pa_cons pe_int (pa_cons pe_int pa_nil))) pa_nil))) pa_nil))))))
        (pss_cons (ps_asg (pe_call (ok_page_sums T) (hr.mono (by decide)) (by rfl) T.g_page_sums T.F_page_sums.kp T.b_page_sums .nil pass0 (pa_cons (pv 3) pa_nil)) (pg_tup rfl (pgs_cons (pg_name (i := 5) sc_law.nd rfl (by first | exact Or.inl rfl | exact Or.inr rfl)) (pgs_cons (pg_name (i := 6) sc_law.nd rfl (by first | exact Or.inl rfl | exact Or.inr rfl)) pgs_nil))))
        (pss_cons (ps_set (i := 7) sc_law.nd rfl (by first | exact Or.inl rfl | exact Or.inr rfl) (pe_call (ok_u_law_pick T) (hr.mono (by decide)) (by rfl) T.g_u_law_pick T.F_u_law_pick.kp T.b_u_law_pick .nil pass0 (pa_cons (pv 1) (pa_cons (pe_lst (pa_cons pe_int (pa_cons pe_int (pa_cons pe_int (pa_cons (pe_op op_add pe_int (pe_call (ok_u_law_take T) (hr.mono (by decide)) (by rfl) T.g_u_law_take T.F_u_law_take.kp T.b_u_law_take .nil pass0 (pa_cons (pv 1) (pa_cons pe_int pa_nil)))) pa_nil))))) pa_nil))))
        (pss_cons (ps_set (i := 8) sc_law.nd rfl (by first | exact Or.inl rfl | exact Or.inr rfl) (pe_ifExp (pt_cmpR op_eq (pv 7) pe_int (nomark _)) pe_int (pe_op op_sub (pv 7) pe_int)))
        (pss_cons (ps_set (i := 9) sc_law.nd rfl (by first | exact Or.inl rfl | exact Or.inr rfl) (pe_call (ok_u_law_take T) (hr.mono (by decide)) (by rfl) T.g_u_law_take T.F_u_law_take.kp T.b_u_law_take .nil pass0 (pa_cons (pv 1) (pa_cons pe_int pa_nil))))
        (pss_cons (ps_set (i := 10) sc_law.nd rfl (by first | exact Or.inl rfl | exact Or.inr rfl) (pe_callTy (kList (K := K)) (by rfl) T.m_list (by decide +kernel) (pa_cons (pv 3) pa_nil)))
        (pss_cons (ps_asg (pv 9) (pg_sub (pv 10) (pv 7) set_list))
        (pss_cons (ps_set (i := 11) sc_law.nd rfl (by first | exact Or.inl rfl | exact Or.inr rfl) (pe_op op_sub (pv 9) (pe_ix (kIxL (K := K)) (pv 3) (pv 7) (fun _ _ => rfl))))
        (pss_cons (ps_if (pt_cmpR (kNeD (K := K) hr.units) (pe_call (ok_page_sums T) (hr.mono (by decide)) (by rfl) T.g_page_sums T.F_page_sums.kp T.b_page_sums .nil pass0 (pa_cons (pv 10) pa_nil)) (pe_tup (pa_cons (pe_op op_mod (pe_callTy cInt (by rfl) T.m_int (by decide +kernel) (pa_cons (pe_op op_add (pv 5) (pv 11)) pa_nil)) pe_int) (pa_cons (pe_op op_mod (pe_callTy cInt (by rfl) T.m_int (by decide +kernel) (pa_cons (pe_op op_add (pv 6) (pe_op op_mul (pv 11) (pe_op op_sub pe_int (pv 8)))) pa_nil)) pe_int) pa_nil))) (nomark _))
          (pss_one (ps_ret pe_bl))
          pss_nil)
        (pss_cons (ps_set (i := 12) sc_law.nd rfl (by first | exact Or.inl rfl | exact Or.inr rfl) (pe_callTy (kList (K := K)) (by rfl) T.m_list (by decide +kernel) (pa_cons (pv 3) pa_nil)))
        (pss_cons (ps_asg (pe_call (ok_u_law_take T) (hr.mono (by decide)) (by rfl) T.g_u_law_take T.F_u_law_take.kp T.b_u_law_take .nil pass0 (pa_cons (pv 1) (pa_cons pe_int pa_nil))) (pg_sub (pv 12) (pe_op op_add pe_int (pe_call (ok_u_law_take T) (hr.mono (by decide)) (by rfl) T.g_u_law_take T.F_u_law_take.kp T.b_u_law_take .nil pass0 (pa_cons (pv 1) (pa_cons pe_int pa_nil)))) set_list))
        (pss_cons (ps_if (pt_cmpR (kNeD (K := K) hr.units) (pe_call (ok_page_sums T) (hr.mono (by decide)) (by rfl) T.g_page_sums T.F_page_sums.kp T.b_page_sums .nil pass0 (pa_cons (pv 12) pa_nil)) (pe_tup (pa_cons (pv 5) (pa_cons (pv 6) pa_nil))) (nomark _))
          (pss_one (ps_ret pe_bl))
          pss_nil)
        (pss_cons (ps_set (i := 13) sc_law.nd rfl (by first | exact Or.inl rfl | exact Or.inr rfl) (pe_lcK (own := [("k", 4)]) (vs := [4]) (g := gName 4) (tt := tYes) rfl (by rfl) sc_law.nd (pi_range1 (by rfl) T.m_range (pa_cons pe_int pa_nil)) (blkOk_by (own := [("k", 4)]) (N := N_law) (sc := defScope s_law) (by decide +kernel)) (fun _ _ _ _ _ => pg_name (i := 4) sc_law.nd rfl (by first | exact Or.inl rfl | exact Or.inr rfl) (by first | exact Or.inl rfl | exact Or.inr rfl)) (fun _ _ _ _ _ => pts_nil) (fun _ _ _ _ _ => (pe_call (ok_u_law_take T) (hr.mono (by decide)) (by rfl) T.g_u_law_take T.F_u_law_take.kp T.b_u_law_take .nil pass0 (pa_cons (pv 1) (pa_cons pe_int pa_nil))))))
        (pss_cons (ps_set (i := 14) sc_law.nd rfl (by first | exact Or.inl rfl | exact Or.inr rfl) (pe_call (ok_page_sums T) (hr.mono (by decide)) (by rfl) T.g_page_sums T.F_page_sums.kp T.b_page_sums .nil pass0 (pa_cons (pv 13) pa_nil)))
        (pss_cons (ps_set (i := 15) sc_law.nd rfl (by first | exact Or.inl rfl | exact Or.inr rfl) (pe_call (ok_page_sums T) (hr.mono (by decide)) (by rfl) T.g_page_sums T.F_page_sums.kp T.b_page_sums .nil pass0 (pa_cons (pe_lcK (own := [("k", 4)]) (vs := [4]) (g := gName 4) (tt := tYes) rfl (by rfl) sc_law.nd (pi_range1 (by rfl) T.m_range (pa_cons pe_int pa_nil)) (blkOk_by (own := [("k", 4)]) (N := N_law) (sc := defScope s_law) (by decide +kernel)) (fun _ _ _ _ _ => pg_name (i := 4) sc_law.nd rfl (by first | exact Or.inl rfl | exact Or.inr rfl) (by first | exact Or.inl rfl | exact Or.inr rfl)) (fun _ _ _ _ _ => pts_nil) (fun _ _ _ _ _ => (pe_op op_add (pe_ix (kIxL (K := K)) (pv 3) (pv 4) (fun _ _ => rfl)) (pe_ix (kIxL (K := K)) (pv 13) (pv 4) (fun _ _ => rfl))))) pa_nil)))
        (pss_cons (ps_if (pt_cmpR (kNeD (K := K) hr.units) (pv 15) (pe_tup (pa_cons (pe_op op_mod (pe_callTy cInt (by rfl) T.m_int (by decide +kernel) (pa_cons (pe_op op_add (pv 5) (pe_ix (kIxT (K := K)) (pv 14) pe_int (fun _ _ => rfl))) pa_nil)) pe_int) (pa_cons (pe_op op_mod (pe_callTy cInt (by rfl) T.m_int (by decide +kernel) (pa_cons (pe_op op_add (pv 6) (pe_ix (kIxT (K := K)) (pv 14) pe_int (fun _ _ => rfl))) pa_nil)) pe_int) pa_nil))) (nomark _))
          (pss_one (ps_ret pe_bl))
          pss_nil)
        (pss_cons (ps_set (i := 16) sc_law.nd rfl (by first | exact Or.inl rfl | exact Or.inr rfl) (pe_op op_rep (pe_lst (pa_cons pe_int pa_nil)) pe_int))
        (pss_cons (ps_set (i := 17) sc_law.nd rfl (by first | exact Or.inl rfl | exact Or.inr rfl) (pe_op op_add pe_int (pe_call (ok_u_law_take T) (hr.mono (by decide)) (by rfl) T.g_u_law_take T.F_u_law_take.kp T.b_u_law_take .nil pass0 (pa_cons (pv 1) (pa_cons pe_int pa_nil)))))
        (pss_cons (ps_set (i := 18) sc_law.nd rfl (by first | exact Or.inl rfl | exact Or.inr rfl) (pe_call (ok_u_law_octets T) hr (by rfl) T.g_u_law_octets T.F_u_law_octets.kp T.b_u_law_octets .nil pass0 (pa_cons (pv 1) (pa_cons pe_int pa_nil))))
        (pss_cons (ps_asg (pv 18) (pg_slc (pv 16) (pv 17) (pe_op op_add (pv 17) (pe_callB (kLen (K := K)) (by rfl) T.m_len (by decide +kernel) (pa_cons (pv 18) pa_nil)))))
        (pss_cons (ps_set (i := 19) sc_law.nd rfl (by first | exact Or.inl rfl | exact Or.inr rfl) (pe_op op_rep (pe_lst (pa_cons pe_int pa_nil)) pe_int))
        (pss_cons (ps_asg (pv 18) (pg_slc (pv 19) (pe_op op_add (pv 17) pe_int) (pe_op op_add (pe_op op_add (pv 17) pe_int) (pe_callB (kLen (K := K)) (by rfl) T.m_len (by decide +kernel) (pa_cons (pv 18) pa_nil)))))
        (pss_cons (ps_par (i := 20) (j := 21) rfl sc_law.nd rfl rfl (by decide) rfl rfl (pa_cons (pe_call (ok_page_sums T) (hr.mono (by decide)) (by rfl) T.g_page_sums T.F_page_sums.kp T.b_page_sums .nil pass0 (pa_cons (pv 16) pa_nil)) (pa_cons (pe_call (ok_page_sums T) (hr.mono (by decide)) (by rfl) T.g_page_sums T.F_page_sums.kp T.b_page_sums .nil pass0 (pa_cons (pv 19) pa_nil)) pa_nil)) (by rfl))
        (pss_cons (ps_if (PW.pt (pw_or (pt_cmpR (kNeD (K := K) hr.units) (pv 21) (pe_tup (pa_cons (pe_ix (kIxT (K := K)) (pv 20) pe_int (fun _ _ => rfl)) (pa_cons (pe_op op_mod (pe_callTy cInt (by rfl) T.m_int (by decide +kernel) (pa_cons (pe_op op_sub (pe_ix (kIxT (K := K)) (pv 20) pe_int (fun _ _ => rfl)) (pe_callB (kSum (K := K) rfl) (by rfl) T.m_sum (by decide +kernel) (pa_cons (pv 18) pa_nil))) pa_nil)) pe_int) pa_nil))) (nomark _)) (pw_or1 (pt_cmpR op_ne (pe_ix (kIxT (K := K)) (pv 20) pe_int (fun _ _ => rfl)) (pe_op op_mod (pe_callTy cInt (by rfl) T.m_int (by decide +kernel) (pa_cons (pe_callB (kSum (K := K) rfl) (by rfl) T.m_sum (by decide +kernel) (pa_cons (pv 18) pa_nil)) pa_nil)) pe_int) (nomark _)))))
          (pss_one (ps_ret pe_bl))
          pss_nil)
        (pss_cons (ps_asg (pe_lcK (own := [("k", 4)]) (vs := [4]) (g := gName 4) (tt := tYes) rfl (by rfl) sc_law.nd (pi_range1 (by rfl) T.m_range (pa_cons pe_int pa_nil)) (blkOk_by (own := [("k", 4)]) (N := N_law) (sc := defScope s_law) (by decide +kernel)) (fun _ _ _ _ _ => pg_name (i := 4) sc_law.nd rfl (by first | exact Or.inl rfl | exact Or.inr rfl) (by first | exact Or.inl rfl | exact Or.inr rfl)) (fun _ _ _ _ _ => pts_nil) (fun _ _ _ _ _ => (pe_op op_add pe_int (pe_call (ok_u_law_take T) (hr.mono (by decide)) (by rfl) T.g_u_law_take T.F_u_law_take.kp T.b_u_law_take .nil pass0 (pa_cons (pv 1) (pa_cons pe_int pa_nil)))))) (pg_lst rfl (pgs_cons (pg_name (i := 22) sc_law.nd rfl (by first | exact Or.inl rfl | exact Or.inr rfl)) (pgs_cons (pg_name (i := 23) sc_law.nd rfl (by first | exact Or.inl rfl | exact Or.inr rfl)) pgs_nil))))
        (pss_cons (ps_set (i := 24) sc_law.nd rfl (by first | exact Or.inl rfl | exact Or.inr rfl) (pe_callTy (kList (K := K)) (by rfl) T.m_list (by decide +kernel) (pa_cons (pv 3) pa_nil)))
        (pss_cons (ps_asg (pe_tup (pa_cons (pe_ix (kIxL (K := K)) (pv 3) (pv 23) (fun _ _ => rfl)) (pa_cons (pe_ix (kIxL (K := K)) (pv 3) (pv 22) (fun _ _ => rfl)) pa_nil))) (pg_tup rfl (pgs_cons (pg_sub (pv 24) (pv 22) set_list) (pgs_cons (pg_sub (pv 24) (pv 23) set_list) pgs_nil))))
        (pss_cons (ps_set (i := 25) sc_law.nd rfl (by first | exact Or.inl rfl | exact Or.inr rfl) (pe_op op_mul (pe_op op_sub (pe_ix (kIxL (K := K)) (pv 3) (pv 23) (fun _ _ => rfl)) (pe_ix (kIxL (K := K)) (pv 3) (pv 22) (fun _ _ => rfl))) (pe_op op_sub (pv 23) (pv 22))))
        (pss_one (ps_if (pt_cmpR (kNeD (K := K) hr.units) (pe_call (ok_page_sums T) (hr.mono (by decide)) (by rfl) T.g_page_sums T.F_page_sums.kp T.b_page_sums .nil pass0 (pa_cons (pv 24) pa_nil)) (pe_tup (pa_cons (pv 5) (pa_cons (pe_op op_mod (pe_callTy cInt (by rfl) T.m_int (by decide +kernel) (pa_cons (pe_op op_add (pv 6) (pv 25)) pa_nil)) pe_int) pa_nil))) (nomark _))
          (pss_one (ps_ret pe_bl))
          pss_nil)))))))))))))))))))))))))))))))
      (pss_one (ps_ret (pe_and (pe_cmpR (kEqD (K := K) hr.units) (pe_call (ok_page_sums T) (hr.mono (by decide)) (by rfl) T.g_page_sums T.F_page_sums.kp T.b_page_sums .nil pass0 (pa_cons (pe_op op_rep (pe_lst (pa_cons pe_int pa_nil)) pe_int) pa_nil)) (pe_tup (pa_cons pe_int (pa_cons pe_int pa_nil))) (nomark _)) (pe_one (pe_cmpR (kEqD (K := K) hr.units) (pe_call (ok_page_sums T) (hr.mono (by decide)) (by rfl) T.g_page_sums T.F_page_sums.kp T.b_page_sums .nil pass0 (pa_cons (pe_op op_rep (pe_lst (pa_cons pe_int pa_nil)) pe_int) pa_nil)) (pe_tup (pa_cons (pe_op op_mod (pe_callTy cInt (by rfl) T.m_int (by decide +kernel) (pa_cons (pe_op op_mul pe_int pe_int) pa_nil)) pe_int) (pa_cons (pe_op op_mod (pe_callTy cInt (by rfl) T.m_int (by decide +kernel) (pa_cons (pe_op op_fdiv (pe_op op_mul (pe_op op_mul pe_int pe_int) pe_int) pe_int) pa_nil)) pe_int) pa_nil))) (nomark _)))))))), ?_⟩
    walk_at "gd"
    refine ⟨a, scr, 160, 14, rfl, hS, hns, by decide, by decide, fun H1 d sm hn hk => ?_⟩
    have kk := Kn.deck hk
    walk_at "gd"
    refine n_for (by decide) (by decide) (fun i σ H' => ∃ (y2 y3 y4 y5 y6 y7 y8 y9 y10 y11 y12 y13 y14 y15 y16 y17 y18 y19 y20 y21 y22 y23 y24 y25 : Option V), σ = [some (.ref a), some (.ref d), y2, y3, y4, y5, y6, y7, y8, y9, y10, y11, y12, y13, y14, y15, y16, y17, y18, y19, y20, y21, y22, y23, y24, y25] ∧ Kn (some d) H1 [] H')
      ⟨_, _, _, _, _, _, _, _, _, _, _, _, _, _, _, _, _, _, _, _, _, _, _, _, rfl, kk⟩ (fun i σ H' hi hp => ?_) (fun σ H' hp => ?_)
    · obtain ⟨y2, y3, y4, y5, y6, y7, y8, y9, y10, y11, y12, y13, y14, y15, y16, y17, y18, y19, y20, y21, y22, y23, y24, y25, rfl, kk⟩ := hp
      walk_at "gd"
      -- page
      refine n_lcR (n := 512) (by decide) (by decide) kk (fun i acc => ∃ ns : List Int, acc = ns.map V.int ∧ ns.length = i ∧ ∀ x ∈ ns, 0 ≤ x ∧ x < 128) ⟨[], rfl, rfl, (fun _ z => nomatch z)⟩ (fun i acc D H2 hi ra ka Q' q' => ?_)
        (fun i acc ⟨ns, e, l, _⟩ => by rw [e, List.length_map, l]; exact Nat.le_refl _) (fun acc pp H2 ra ka => ?_)
      · obtain ⟨ns, rfl, hl, hb⟩ := ra
        walk_at "gd"
        rename_i tp _ x H3 hx kk
        obtain ⟨m, rfl, hm⟩ : ∃ m : Int, x = .int m ∧ (m = 2 ∨ m = 128) := by
          simp only [List.mem_cons, List.not_mem_nil, or_false] at hx
          rcases hx with rfl | rfl
          · exact ⟨_, rfl, .inl rfl⟩
          · exact ⟨_, rfl, .inr rfl⟩
        walk_at "gd"
        rename_i n H4 n0 n1 kk
        refine q' _ _ ⟨ns ++ [n], by rw [List.map_append]; rfl, by rw [List.length_append, hl]; rfl, fun y hy => ?_⟩ (kk.forget 1)
        rcases List.mem_append.mp hy with hy | hy
        · exact hb y hy
        · rw [List.mem_singleton.mp hy]; exact ⟨n0, by omega⟩
      obtain ⟨pg, rfl, hpl, hpb⟩ := ra
      have hpl : pg.length = 512 := hpl
      clear kk
      walk_at "gd"
      refine u_sums ka 0 rfl hpl (fun p3 H3 k3 => ?_)
      clear ka
      walk_at "gd"
      rename_i n _ n0 n1 tp _ x H4 hx kk
      obtain ⟨an, rfl, han⟩ : ∃ an : Nat, x = .int an ∧ (an = 0 ∨ 5 ≤ an ∧ an < 512) := by
        simp only [List.mem_cons, List.not_mem_nil, or_false] at hx
        rcases hx with rfl | rfl | rfl | rfl
        · exact ⟨0, rfl, .inl rfl⟩
        · exact ⟨5, rfl, .inr ⟨by decide, by decide⟩⟩
        · exact ⟨511, rfl, .inr ⟨by decide, by decide⟩⟩
        · exact ⟨(5 + n).toNat, by rw [Int.toNat_of_nonneg (by omega)], .inr ⟨by omega, by omega⟩⟩
      clear hx
      have han' : an < pg.length := by omega
      obtain ⟨z, hz⟩ : ∃ z, pg[an]? = some z := ⟨_, List.getElem?_eq_getElem han'⟩
      have hzb := hpb z (List.mem_of_getElem? hz)
      -- place
      refine s_ifJ (R := fun v H' => H' = H4 ∧ ∃ pl : Int, v = .int pl ∧ (an = 0 ∧ pl = 0 ∨ 5 ≤ an ∧ pl = (an : Int) - 4)) (fun Q' q' => ?_) (fun v H' hv => ?_)
      · refine s_if ?_
        walk_at "gd"
        refine ite_d (fun h => ?_) (fun h => ?_)
        · walk_at "gd"
          exact q' _ _ ⟨rfl, _, rfl, .inl ⟨by omega, rfl⟩⟩
        · walk_at "gd"
          exact q' _ _ ⟨rfl, _, rfl, .inr ⟨by omega, rfl⟩⟩
      obtain ⟨rfl, pl, rfl, hpl'⟩ := hv
      -- value, bent
      walk_at "gd"
      rename_i vv _ v0 v1 bp H5 kk
      refine a_set kk 0 rfl (ixN_nat (by rw [List.length_map]; exact han')) (fun H6 k6 => ?_)
      clear kk
      rw [show (pg.map V.int).set an (V.int vv) = (pg.set an vv).map V.int from List.map_set.symm] at k6
      walk_at "gd"
      refine s_ixL (kn_sq k6 3 rfl) (atI_nat (get_map hz)) ?_
      walk_at "gd"
      refine u_sums k6 0 rfl (by rw [List.length_set]; exact hpl) (fun p7 H7 k7 => ?_)
      clear k6
      have hS := S_set hpl (v := vv) hz hpl'
      rw [show S1 (pg.set an vv) % 65521 = (S1 pg % 65521 + (vv - z)) % 65521 by rw [hS.1]; omega, show S2 (pg.set an vv) % 65521 = (S2 pg % 65521 + (vv - z) * (508 - pl)) % 65521 by rw [hS.2]; omega] at k7
      walk_at "gd"
      refine s_I (.inr ⟨by omega, by omega⟩) ?_
      walk_at "gd"
      rename_i p8 H8 k8
      refine pair_dp k8 1 0 rfl rfl ?_
      walk_at "gd"
      refine iteF ?_
      -- hidden
      walk_at "gd"
      rename_i hp _ hv _ hv0 hv1 hn _ hn0 hn1 kk
      obtain ⟨hm, rfl⟩ := Int.eq_ofNat_of_zero_le hn0
      refine a_set kk 0 rfl (ixN_of (j := 1 + hm) (by omega) (by rw [List.length_map]; omega)) (fun H9 k9 => ?_)
      clear kk
      rw [show (pg.map V.int).set (1 + hm) (V.int hv) = (pg.set (1 + hm) hv).map V.int from List.map_set.symm] at k9
      walk_at "gd"
      refine u_sums k9 0 rfl (by rw [List.length_set]; exact hpl) (fun p10 H10 k10 => ?_)
      clear k9
      have hH := S_hid hpl (v := hv) (i := 1 + hm) (by omega) (by omega)
      rw [hH.1, hH.2] at k10
      walk_at "gd"
      rename_i p11 H11 k11
      refine pair_dp k11 1 0 rfl rfl ?_
      walk_at "gd"
      refine iteF ?_
      have kk : Kn (some d) H1 [(p3, .tup [.int (S1 pg % 65521), .int (S2 pg % 65521)]), (pp, .lst (pg.map V.int))] H11 := k11.sub (by walk_at "sub")
      clear k11
      walk_at "gd"
      -- other
      refine n_lcR (n := 512) (by decide) (by decide) kk (fun i acc => ∃ ns : List Int, acc = ns.map V.int ∧ ns.length = i ∧ ∀ x ∈ ns, 0 ≤ x ∧ x < 128) ⟨[], rfl, rfl, (fun _ z => nomatch z)⟩ (fun i acc D H2 hi ra ka Q' q' => ?_)
        (fun i acc ⟨ns, e, l, _⟩ => by rw [e, List.length_map, l]; exact Nat.le_refl _) (fun acc op H12 ra ka => ?_)
      · obtain ⟨ns, rfl, hl, hb⟩ := ra
        walk_at "gd"
        rename_i n H4 n0 n1 kk
        refine q' _ _ ⟨ns ++ [n], by rw [List.map_append]; rfl, by rw [List.length_append, hl]; rfl, fun y hy => ?_⟩ kk
        rcases List.mem_append.mp hy with hy | hy
        · exact hb y hy
        · rw [List.mem_singleton.mp hy]; exact ⟨n0, n1⟩
      obtain ⟨ot, rfl, hol, hob⟩ := ra
      have hol : ot.length = 512 := hol
      clear kk
      walk_at "gd"
      refine u_sums ka 0 rfl hol (fun p13 H13 k13 => ?_)
      clear ka
      walk_at "gd"
      have hal : (addL pg ot).length = 512 := by rw [addL_len pg ot (by rw [hpl, hol]), hpl]
      refine n_lcR (n := 512) (by decide) (by decide) k13 (fun i acc => acc = ((addL pg ot).take i).map V.int) rfl (fun i acc D H2 hi ra ka Q' q' => ?_)
        (fun i acc e => by rw [e, List.length_map, List.length_take]; exact Nat.min_le_left _ _) (fun acc bp2 H14 ra ka => ?_)
      · subst ra
        have hi' : i < 512 := hi
        obtain ⟨u, hu⟩ : ∃ u, pg[i]? = some u := ⟨_, List.getElem?_eq_getElem (by omega)⟩
        obtain ⟨v, hv'⟩ : ∃ v, ot[i]? = some v := ⟨_, List.getElem?_eq_getElem (by omega)⟩
        walk_at "gd"
        refine s_ixL (kn_sq ka 4 rfl) (atI_nat (get_map hu)) ?_
        walk_at "gd"
        refine s_ixL (kn_sq ka 2 rfl) (atI_nat (get_map hv')) ?_
        walk_at "gd"
        refine q' _ _ ?_ ka
        rw [List.take_add_one, addL_get pg ot i u v hu hv', List.map_append]; rfl
      subst ra
      rw [show (addL pg ot).take (Int.toNat 512) = addL pg ot from List.take_of_length_le (by rw [hal]; decide)] at ka
      clear k13
      walk_at "gd"
      refine u_sums ka 0 rfl hal (fun p15 H15 k15 => ?_)
      clear ka
      have hA := S_add hpl hol
      rw [show S1 (addL pg ot) % 65521 = (S1 pg % 65521 + S1 ot % 65521) % 65521 by rw [hA.1]; omega, show S2 (addL pg ot) % 65521 = (S2 pg % 65521 + S2 ot % 65521) % 65521 by rw [hA.2]; omega] at k15
      walk_at "gd"
      rename_i p16 H16 k16
      refine pair_dp k16 1 0 rfl rfl ?_
      walk_at "gd"
      refine iteF ?_
      have kk : Kn (some d) H1 [(p3, .tup [.int (S1 pg % 65521), .int (S2 pg % 65521)]), (pp, .lst (pg.map V.int))] H16 := k16.sub (by walk_at "sub")
      clear k16
      walk_at "gd"
      -- calm, low, rows
      rename_i zp H17 k17
      refine s_rep k17 (k17.get 0 rfl) (by decide) (by decide) (small_len rfl) (fun cp H18 k18 => ?_)
      clear k17
      rw [rep1 (n := 512) (z := 0)] at k18
      walk_at "gd"
      rename_i lz H19 l0 l1 k19
      obtain ⟨lo, hlo⟩ : ∃ lo : Nat, 5 + lz = (lo : Int) := ⟨(5 + lz).toNat, (Int.toNat_of_nonneg (by omega)).symm⟩
      rw [hlo]
      have lo5 : 5 ≤ lo := by omega
      have lo4 : lo ≤ 404 := by omega
      refine u_octets k19 (by decide) (by decide) (fun rs rp H20 hrl hrb k20 => ?_)
      clear k19
      have hrl' : rs.length ≤ 90 := by omega
      walk_at "gd"
      refine a_slc k20 1 0 rfl rfl (by decide) (i := lo) (j := lo + rs.length) rfl (by rw [List.length_map, Int.natCast_add]) (Nat.le_add_right _ _) (by rw [List.length_map, List.length_replicate]; show _ ≤ 512; omega) (by rw [List.length_map, List.length_map, List.length_replicate]; show 512 + _ ≤ _; omega) (fun H21 k21 => ?_)
      clear k20
      rw [show Int.toNat 512 = 512 from rfl, slice_row (show lo + rs.length ≤ 512 by omega)] at k21
      walk_at "gd"
      rename_i zp2 H22 k22
      refine s_rep k22 (k22.get 0 rfl) (by decide) (by decide) (small_len rfl) (fun mp H23 k23 => ?_)
      clear k22
      rw [rep1 (n := 512) (z := 0)] at k23
      walk_at "gd"
      refine a_slc k23 0 2 rfl rfl (by decide) (i := lo + 1) (j := lo + 1 + rs.length) rfl (by rw [List.length_map, Int.natCast_add, Int.natCast_add]; rfl) (Nat.le_add_right _ _) (by rw [List.length_map, List.length_replicate]; show _ ≤ 512; omega) (by rw [List.length_map, List.length_map, List.length_replicate]; show 512 + _ ≤ _; omega) (fun H24 k24 => ?_)
      clear k23
      rw [show Int.toNat 512 = 512 from rfl, slice_row (show lo + 1 + rs.length ≤ 512 by omega)] at k24
      walk_at "gd"
      refine u_sums k24 3 rfl (rowAt_len (by omega)) (fun p25 H25 k25 => ?_)
      clear k24
      walk_at "gd"
      refine u_sums k25 1 rfl (rowAt_len (by omega)) (fun p26 H26 k26 => ?_)
      clear k25
      have hR := S_rowAt (rs := rs) lo5
      have hM := S_rowAt (rs := rs) (show 5 ≤ lo + 1 by omega)
      have hV := S_moved (rs := rs) lo5 (by omega)
      rw [show S1 (rowAt (lo + 1) rs) % 65521 = S1 (rowAt lo rs) % 65521 by rw [hM.1, hR.1], show S2 (rowAt (lo + 1) rs) % 65521 = (S2 (rowAt lo rs) % 65521 - rs.sum) % 65521 by rw [hV]; omega] at k26
      walk_at "gd"
      rename_i p27 H27 k27
      refine pair_dp k27 1 0 rfl rfl ?_
      walk_at "gd"
      refine iteF ?_
      walk_at "gd"
      refine iteNS (by rw [hR.1]) ?_
      have kk : Kn (some d) H1 [(p3, .tup [.int (S1 pg % 65521), .int (S2 pg % 65521)]), (pp, .lst (pg.map V.int))] H27 := k27.sub (by walk_at "sub")
      clear k27
      walk_at "gd"
      -- left, right
      refine n_lcR (n := 2) (by decide) (by decide) kk (fun i acc => ∃ ns : List Nat, acc = ns.map (fun (n : Nat) => V.int (n : Int)) ∧ ns.length = i ∧ ∀ x ∈ ns, 5 ≤ x ∧ x < 512) ⟨[], rfl, rfl, (fun _ z => nomatch z)⟩ (fun i acc D H2 hi ra ka Q' q' => ?_)
        (fun i acc ⟨ns, e, l, _⟩ => by rw [e, List.length_map, l]; exact Nat.le_refl _) (fun acc lp H28 ra ka => ?_)
      · obtain ⟨ns, rfl, hl, hb⟩ := ra
        walk_at "gd"
        rename_i n H4 n0 n1 kk
        obtain ⟨m, hm⟩ : ∃ m : Nat, 5 + n = (m : Int) := ⟨(5 + n).toNat, (Int.toNat_of_nonneg (by omega)).symm⟩
        rw [hm]
        refine q' _ _ ⟨ns ++ [m], by rw [List.map_append]; rfl, by rw [List.length_append, hl]; rfl, fun y hy => ?_⟩ kk
        rcases List.mem_append.mp hy with hy | hy
        · exact hb y hy
        · rw [List.mem_singleton.mp hy]; omega
      obtain ⟨ns, rfl, hnl, hnb⟩ := ra
      obtain ⟨li, ri, rfl⟩ : ∃ x y, ns = [x, y] := by
        match ns, hnl with
        | [x, y], _ => exact ⟨x, y, rfl⟩
      have hli := hnb li (by simp)
      have hri := hnb ri (by simp)
      clear kk
      rw [show ([li, ri] : List Nat).map (fun (n : Nat) => V.int (n : Int)) = [V.int li, V.int ri] from rfl] at ka
      obtain ⟨la, hla⟩ : ∃ u, pg[li]? = some u := ⟨_, List.getElem?_eq_getElem (by omega)⟩
      obtain ⟨rb, hrb2⟩ : ∃ u, pg[ri]? = some u := ⟨_, List.getElem?_eq_getElem (by omega)⟩
      have hlab := hpb la (List.mem_of_getElem? hla)
      have hrbb := hpb rb (List.mem_of_getElem? hrb2)
      walk_at "gd"
      rename_i tp2 H29 k29
      refine s_ixL (kn_sq k29 3 rfl) (atI_nat (get_map hrb2)) ?_
      walk_at "gd"
      refine s_ixL (kn_sq k29 3 rfl) (atI_nat (get_map hla)) ?_
      walk_at "gd"
      rename_i tp3 H30 k30
      refine a_set k30 1 rfl (ixN_nat (by rw [List.length_map]; omega)) (fun H31 k31 => ?_)
      clear k30
      rw [show (pg.map V.int).set li (V.int rb) = (pg.set li rb).map V.int from List.map_set.symm] at k31
      walk_at "gd"
      refine a_set k31 1 rfl (ixN_nat (by rw [List.length_map, List.length_set]; omega)) (fun H32 k32 => ?_)
      clear k31
      rw [show ((pg.set li rb).map V.int).set ri (V.int la) = ((pg.set li rb).set ri la).map V.int from List.map_set.symm] at k32
      walk_at "gd"
      refine s_ixL (kn_sq k32 4 rfl) (atI_nat (get_map hrb2)) ?_
      walk_at "gd"
      refine s_ixL (kn_sq k32 4 rfl) (atI_nat (get_map hla)) ?_
      walk_at "gd"
      refine s_I (.inr ⟨by omega, by omega⟩) ?_
      walk_at "gd"
      refine u_sums k32 1 rfl (by rw [List.length_set, List.length_set]; exact hpl) (fun p33 H33 k33 => ?_)
      clear k32
      have hT := S_turn hpl hla hrb2 hli.1 hri.1
      rw [hT.1, show S2 ((pg.set li rb).set ri la) % 65521 = (S2 pg % 65521 + (rb - la) * ((ri : Int) - li)) % 65521 by rw [hT.2]; omega] at k33
      walk_at "gd"
      rename_i p34 H34 k34
      refine pair_dp k34 1 0 rfl rfl ?_
      walk_at "gd"
      refine iteF ?_
      walk_at "gd"
      exact ⟨_, _, _, _, _, _, _, _, _, _, _, _, _, _, _, _, _, _, _, _, _, _, _, _, rfl, k34.none_⟩
    · obtain ⟨y2, y3, y4, y5, y6, y7, y8, y9, y10, y11, y12, y13, y14, y15, y16, y17, y18, y19, y20, y21, y22, y23, y24, y25, rfl, kk⟩ := hp
      walk_at "gd"
      rename_i zp H2 k2
      refine s_rep k2 (k2.get 0 rfl) (by decide) (by decide) (small_len rfl) (fun cp H3 k3 => ?_)
      clear k2
      rw [rep1 (n := 512) (z := 0)] at k3
      walk_at "gd"
      refine u_sums k3 0 rfl rfl (fun p4 H4 k4 => ?_)
      clear k3
      rw [show S1 (List.replicate (Int.toNat 512) 0) % 65521 = 0 by decide +kernel, show S2 (List.replicate (Int.toNat 512) 0) % 65521 = 0 by decide +kernel] at k4
      walk_at "gd"
      rename_i p5 H5 k5
      refine pair_eq k5 1 0 rfl rfl ?_
      walk_at "gd"
      refine iteT ?_
      walk_at "gd"
      rename_i zp2 H6 k6
      refine s_rep k6 (k6.get 0 rfl) (by decide) (by decide) (small_len rfl) (fun cp2 H7 k7 => ?_)
      clear k6
      rw [rep1 (n := 512) (z := 255)] at k7
      walk_at "gd"
      refine u_sums k7 0 rfl rfl (fun p8 H8 k8 => ?_)
      clear k7
      rw [show S1 (List.replicate (Int.toNat 512) 255) % 65521 = 508 * 255 % 65521 by decide +kernel, show S2 (List.replicate (Int.toNat 512) 255) % 65521 = 255 * 508 * 509 / 2 % 65521 by decide +kernel] at k8
      walk_at "gd"
      rename_i p9 H9 k9
      refine pair_eq k9 1 0 rfl rfl ?_
      walk_at "gd"
      exact q _
end

theorem all_mk {l : PySem.W.OpenLaw} {w : World} {K : PySem.W.Frag} {h : Heap} {mg : Str → Option Value} {fa : Addr} (X : K.In h) (G : h.Ns mainGlobals mg) (hfa : mg "law" = some (.ref fa))
    {f0 : Addr} {od0 an0 : Option Addr} {sl0 : Array (Option Value)} {oc0 kV0 dc0 pm0 cd0 ct0 : Value} {f1 : Addr} {od1 an1 : Option Addr} {sl1 : Array (Option Value)} {oc1 kV1 dc1 pm1 cd1 ct1 : Value} {f2 : Addr} {od2 an2 : Option Addr} {sl2 : Array (Option Value)} {oc2 kV2 dc2 pm2 cd2 ct2 : Value} {f3 : Addr} {od3 an3 : Option Addr} {sl3 : Array (Option Value)} {oc3 kV3 dc3 pm3 cd3 ct3 : Value} {f4 : Addr} {od4 an4 : Option Addr} {sl4 : Array (Option Value)} {oc4 kV4 dc4 pm4 cd4 ct4 : Value} {f5 : Addr} {od5 an5 : Option Addr} {sl5 : Array (Option Value)} {oc5 kV5 dc5 pm5 cd5 ct5 : Value} {f6 : Addr} {od6 an6 : Option Addr} {sl6 : Array (Option Value)} {oc6 kV6 dc6 pm6 cd6 ct6 : Value} {tk0 : Tok}
    (a0 : PySem.W.nsIn K mainGlobals "summed_octets" = some (some (.ref f0))) (l0 : K.lookup f0 = some ⟨oc0, od0, .func (PySem.W.fnOf "summed_octets" "summed_octets" (defArgs s_summed_octets) (defBody s_summed_octets) (defScope s_summed_octets) .none kV0 dc0 pm0 an0 cd0 ct0), sl0⟩) (c0 : PySem.W.codeIn K cd0 "summed_octets" = true) (k0 : PySem.W.keepIn K (.ref f0) = true)
    (a1 : PySem.W.nsIn K mainGlobals "page_sums" = some (some (.ref f1))) (l1 : K.lookup f1 = some ⟨oc1, od1, .func (PySem.W.fnOf "page_sums" "page_sums" (defArgs s_page_sums) (defBody s_page_sums) (defScope s_page_sums) .none kV1 dc1 pm1 an1 cd1 ct1), sl1⟩) (c1 : PySem.W.codeIn K cd1 "page_sums" = true) (k1 : PySem.W.keepIn K (.ref f1) = true)
    (a2 : PySem.W.nsIn K mainGlobals "_law_deck" = some (some (.ref f2))) (l2 : K.lookup f2 = some ⟨oc2, od2, .func (PySem.W.fnOf "_law_deck" "_law_deck" (defArgs s_u_law_deck) (defBody s_u_law_deck) (defScope s_u_law_deck) .none kV2 dc2 pm2 an2 cd2 ct2), sl2⟩) (c2 : PySem.W.codeIn K cd2 "_law_deck" = true) (k2 : PySem.W.keepIn K (.ref f2) = true)
    (a3 : PySem.W.nsIn K mainGlobals "_law_take" = some (some (.ref f3))) (l3 : K.lookup f3 = some ⟨oc3, od3, .func (PySem.W.fnOf "_law_take" "_law_take" (defArgs s_u_law_take) (defBody s_u_law_take) (defScope s_u_law_take) .none kV3 dc3 pm3 an3 cd3 ct3), sl3⟩) (c3 : PySem.W.codeIn K cd3 "_law_take" = true) (k3 : PySem.W.keepIn K (.ref f3) = true)
    (a4 : PySem.W.nsIn K mainGlobals "_law_pick" = some (some (.ref f4))) (l4 : K.lookup f4 = some ⟨oc4, od4, .func (PySem.W.fnOf "_law_pick" "_law_pick" (defArgs s_u_law_pick) (defBody s_u_law_pick) (defScope s_u_law_pick) .none kV4 dc4 pm4 an4 cd4 ct4), sl4⟩) (c4 : PySem.W.codeIn K cd4 "_law_pick" = true) (k4 : PySem.W.keepIn K (.ref f4) = true)
    (a5 : PySem.W.nsIn K mainGlobals "_law_octets" = some (some (.ref f5))) (l5 : K.lookup f5 = some ⟨oc5, od5, .func (PySem.W.fnOf "_law_octets" "_law_octets" (defArgs s_u_law_octets) (defBody s_u_law_octets) (defScope s_u_law_octets) .none kV5 dc5 pm5 an5 cd5 ct5), sl5⟩) (c5 : PySem.W.codeIn K cd5 "_law_octets" = true) (k5 : PySem.W.keepIn K (.ref f5) = true)
    (a6 : PySem.W.nsIn K mainGlobals "law" = some (some (.ref f6))) (l6 : K.lookup f6 = some ⟨oc6, od6, .func (PySem.W.fnOf "law" "law" (defArgs s_law) (defBody s_law) (defScope s_law) .none kV6 dc6 pm6 an6 cd6 ct6), sl6⟩) (c6 : PySem.W.codeIn K cd6 "law" = true) (k6 : PySem.W.keepIn K (.ref f6) = true)
    (z0 : PySem.W.nsIn K mainGlobals "list" = some none)
    (z1 : PySem.W.nsIn K mainGlobals "sum" = some none)
    (z2 : PySem.W.nsIn K mainGlobals "int" = some none)
    (z3 : PySem.W.nsIn K mainGlobals "len" = some none)
    (z4 : PySem.W.nsIn K mainGlobals "range" = some none)
    (z5 : PySem.W.nsIn K mainGlobals "abs" = some none)
    (v0 : PySem.W.nsIn K mainGlobals "MODULUS" = some (some (.int 65521 tk0))) :
    ∃ fd : FuncData, (∀ (s : Shared) (v : Value), BindsTo s fd ⟨[v], []⟩ [("script", v)]) ∧ ∀ base : Heap, K.In base → base.Ns mainGlobals mg → FnOk l.prog w K mg base CX0 4 fa fd ["script"] (sp_law K) := by
  have e := hfa.symm.trans (PySem.W.mg_of X G a6)
  cases e
  have F0 := fun_mk (st := s_summed_octets) l0 c0 k0
  have b0 := F0.binds (ps := ["page"]) fun _ _ _ _ _ _ us hl => match us, hl with | [_], _ => rfl
  have F1 := fun_mk (st := s_page_sums) l1 c1 k1
  have b1 := F1.binds (ps := ["page"]) fun _ _ _ _ _ _ us hl => match us, hl with | [_], _ => rfl
  have F2 := fun_mk (st := s_u_law_deck) l2 c2 k2
  have b2 := F2.binds (ps := ["script", "cells", "each"]) fun _ _ _ _ _ _ us hl => match us, hl with | [_, _, _], _ => rfl
  have F3 := fun_mk (st := s_u_law_take) l3 c3 k3
  have b3 := F3.binds (ps := ["deck", "many"]) fun _ _ _ _ _ _ us hl => match us, hl with | [_, _], _ => rfl
  have F4 := fun_mk (st := s_u_law_pick) l4 c4 k4
  have b4 := F4.binds (ps := ["deck", "items"]) fun _ _ _ _ _ _ us hl => match us, hl with | [_, _], _ => rfl
  have F5 := fun_mk (st := s_u_law_octets) l5 c5 k5
  have b5 := F5.binds (ps := ["deck", "most"]) fun _ _ _ _ _ _ us hl => match us, hl with | [_, _], _ => rfl
  have F6 := fun_mk (st := s_law) l6 c6 k6
  have b6 := F6.binds (ps := ["script"]) fun _ _ _ _ _ _ us hl => match us, hl with | [_], _ => rfl
  refine ⟨PySem.W.fnOf "law" "law" (defArgs s_law) (defBody s_law) (defScope s_law) .none kV6 dc6 pm6 an6 cd6 ct6, fun s v => .of_eq rfl, fun base _ _ => ?_⟩
  exact ok_law (P := l.prog) (w := w) (base := base) ({ m_list := PySem.W.mg_none_of X G z0, m_sum := PySem.W.mg_none_of X G z1, m_int := PySem.W.mg_none_of X G z2, m_len := PySem.W.mg_none_of X G z3, m_range := PySem.W.mg_none_of X G z4, m_abs := PySem.W.mg_none_of X G z5, t_MODULUS := tk0, v_MODULUS := PySem.W.mg_of X G v0, f_summed_octets := f0, d_summed_octets := _, F_summed_octets := F0, g_summed_octets := PySem.W.mg_of X G a0, b_summed_octets := b0, f_page_sums := f1, d_page_sums := _, F_page_sums := F1, g_page_sums := PySem.W.mg_of X G a1, b_page_sums := b1, f_u_law_deck := f2, d_u_law_deck := _, F_u_law_deck := F2, g_u_law_deck := PySem.W.mg_of X G a2, b_u_law_deck := b2, f_u_law_take := f3, d_u_law_take := _, F_u_law_take := F3, g_u_law_take := PySem.W.mg_of X G a3, b_u_law_take := b3, f_u_law_pick := f4, d_u_law_pick := _, F_u_law_pick := F4, g_u_law_pick := PySem.W.mg_of X G a4, b_u_law_pick := b4, f_u_law_octets := f5, d_u_law_octets := _, F_u_law_octets := F5, g_u_law_octets := PySem.W.mg_of X G a5, b_u_law_octets := b5, f_law := fa, d_law := _, F_law := F6, g_law := PySem.W.mg_of X G a6, b_law := b6 } : Txt K mg)
end Tm
open PySem PySem.W PyProof.Rows
set_option maxHeartbeats 0 in
theorem PySem.Challenge.cw_tidemark_k02_whole_sums_go_along_holds : PySem.Challenge.rw_tidemark_k02_whole_sums_go_along.Holds := by
  w_on; o_law; k_head; (case hw => w_witness2)
  k_fill
  refine L2.walk_of (l := PySem.Challenge.rw_tidemark_k02_whole_sums_go_along) (n := 63) (k := 4) (x := "script") (CX := fun _ => L2.CX0) (sp := fun w => Tm.sp_law _) rfl (by decide) rfl ⟨rfl, by decide, by decide⟩ (fun w h Y => PySem.W.kIn_of Y) ?F (fun _ _ a ns hl _ hS => ⟨a, ns, rfl, hS, hl, fun _ => rfl⟩) (fun _ _ _ _ _ h => h)
  case F =>
    intro w mg fa h KX G hmg
    refine' Tm.all_mk KX G hmg ?a0 ?l0 ?c0 ?k0 ?a1 ?l1 ?c1 ?k1 ?a2 ?l2 ?c2 ?k2 ?a3 ?l3 ?c3 ?k3 ?a4 ?l4 ?c4 ?k4 ?a5 ?l5 ?c5 ?k5 ?a6 ?l6 ?c6 ?k6 ?z0 ?z1 ?z2 ?z3 ?z4 ?z5 ?v0
    (case a0 => k_is); (case l0 => k_is); (case c0 => k_is); (case k0 => k_is); (case a1 => k_is); (case l1 => k_is); (case c1 => k_is); (case k1 => k_is); (case a2 => k_is); (case l2 => k_is); (case c2 => k_is); (case k2 => k_is); (case a3 => k_is); (case l3 => k_is); (case c3 => k_is); (case k3 => k_is); (case a4 => k_is); (case l4 => k_is); (case c4 => k_is); (case k4 => k_is); (case a5 => k_is); (case l5 => k_is); (case c5 => k_is); (case k5 => k_is); (case a6 => k_is); (case l6 => k_is); (case c6 => k_is); (case k6 => k_is); (case z0 => k_is); (case z1 => k_is); (case z2 => k_is); (case z3 => k_is); (case z4 => k_is); (case z5 => k_is); (case v0 => k_is)
